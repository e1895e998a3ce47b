import PyProof.Rows.All
import Wide.All
import OpenK.AllK
import Wide.FinOn
import HandS.ForMost
import HandS.ForExc
import HandS.Wide
import HandS.TupAny
import HandS.TupMul
import HandS.IsInst
import HandS.Style
import HandS.Zip
import HandS.NoneIn
import HandS.ExcInit
import HandS.ExcField
import HandS.ClsMeth
import HandS.Codes
import HandS.TryMany
import PyProof.ZipIter
import PyProof.EnumIter
import HandS.Iter
import PyProof.EnumMake
import PyProof.Draws
import KE.GoesMore
import HandS.SortOrd
import HandS.SortRule
import HandS.SortInts
import HandS.TupSets
import HandS.SetFor
import HandS.Conv
import HandS.Strs
import HandS.Property
import HandS.OwnEq
import HandS.DictEq
import HandS.DeepEq
import HandS.Text
import HandS.FStr
import HandS.RaiseMore
import PyProof.StrOps2
import PyProof.InstNe
import HandS.Flow
import PySem.Challenge.RW_losttickets_k18_texts_refused
set_option Elab.async false
set_option linter.all false
set_option maxRecDepth 100000
/-! # Data without addresses, how it lies in the heap, what a frame holds -/
namespace Lt
open PySem PySem.Spec L2

/-- data without addresses -/
inductive D where
  | non | bl (b : Bool) | int (i : Int) | str (x : Str) | tup (xs : List D) | lst (xs : List D) | scr (ns : List Int) | ins (C : Addr) (ns : List Str) (xs : List D) | emp
/-- an object that one name alone holds -/
inductive O where
  | lst (ds : List D) | dk (kvs : List (Key × D)) | dt (kvs : List (List Key × D)) | ins (C : Addr) (fs : List (Str × D))

mutual
/-- v shows d, all of it among what F tracks (or written) -/
def Rep (K : PySem.W.Frag) (F : Hp) : D → V → Prop
  | .non, v => v = .non
  | .bl b, v => v = .bl b
  | .int i, v => v = .int i
  | .str x, v => v = .str x
  | .tup ds, v => ∃ a xs, v = .ref a ∧ SqT K F a xs ∧ Reps K F ds xs
  | .lst ds, v => ∃ a xs, v = .ref a ∧ F a = some (.lst xs) ∧ Reps K F ds xs
  | .scr ns, v => ∃ a, v = .ref a ∧ SqL K F a (ns.map V.int)
  | .ins C ns ds, v => ∃ (a dx : Addr) (gs : List (Str × V)), v = .ref a ∧ F a = some (.ins C dx gs) ∧ gs.map (·.1) = ns ∧ Reps K F ds (gs.map (·.2))
  | .emp, v => ∃ a, v = .ref a ∧ F a = some (.dK [])
def Reps (K : PySem.W.Frag) (F : Hp) : List D → List V → Prop
  | [], xs => xs = []
  | d :: ds, xs => ∃ x r, xs = x :: r ∧ Rep K F d x ∧ Reps K F ds r
end

section
variable {K : PySem.W.Frag} {F F' : Hp}
theorem Same.seqT {a : Addr} {xs : List V} (e : Same F F') (h : SqT K F a xs) : SqT K F' a xs := by
  rcases h with (h | ⟨o, h⟩) | h
  · exact .inl (.inl (e _ _ h))
  · exact .inl (.inr ⟨o, e _ _ h⟩)
  · exact .inr h
mutual
theorem Rep.mono (e : Same F F') : ∀ (d : D) (v : V), Rep K F d v → Rep K F' d v
  | .non, _, h => h
  | .bl _, _, h => h
  | .int _, _, h => h
  | .str _, _, h => h
  | .tup ds, _, ⟨a, xs, h1, h2, h3⟩ => ⟨a, xs, h1, Same.seqT e h2, Reps.mono e ds xs h3⟩
  | .lst ds, _, ⟨a, xs, h1, h2, h3⟩ => ⟨a, xs, h1, e _ _ h2, Reps.mono e ds xs h3⟩
  | .scr _, _, ⟨a, h1, h2⟩ => ⟨a, h1, e.seq h2⟩
  | .ins _ _ ds, _, ⟨a, dx, gs, h1, h2, h3, h4⟩ => ⟨a, dx, gs, h1, e _ _ h2, h3, Reps.mono e ds _ h4⟩
  | .emp, _, ⟨a, h1, h2⟩ => ⟨a, h1, e _ _ h2⟩
theorem Reps.mono (e : Same F F') : ∀ (ds : List D) (xs : List V), Reps K F ds xs → Reps K F' ds xs
  | [], _, h => h
  | d :: ds, _, ⟨x, r, h1, h2, h3⟩ => ⟨x, r, h1, Rep.mono e d x h2, Reps.mono e ds r h3⟩
end
theorem Reps.len : ∀ {ds : List D} {xs : List V}, Reps K F ds xs → xs.length = ds.length
  | [], _, h => by cases h; rfl
  | _ :: ds, _, ⟨x, r, h1, _, h3⟩ => by subst h1; simp [Reps.len h3]
theorem Reps.at : ∀ {ds : List D} {xs : List V} {i : Nat} {d : D}, Reps K F ds xs → ds[i]? = some d → ∃ x, xs[i]? = some x ∧ Rep K F d x
  | [], _, _, _, _, e => by simp at e
  | _ :: _, _, 0, _, ⟨x, r, h1, h2, _⟩, e => by subst h1; simp at e; subst e; exact ⟨x, rfl, h2⟩
  | _ :: _, _, i + 1, _, ⟨x, r, h1, _, h3⟩, e => by
    subst h1
    obtain ⟨y, q1, q2⟩ := Reps.at (i := i) h3 (by simpa using e)
    exact ⟨y, by simpa using q1, q2⟩
theorem Reps.at' : ∀ {ds : List D} {xs : List V} {i : Nat} {x : V}, Reps K F ds xs → xs[i]? = some x → ∃ d, ds[i]? = some d ∧ Rep K F d x
  | [], _, _, _, h, e => by cases h; simp at e
  | d :: _, _, 0, _, ⟨x, r, h1, h2, _⟩, e => by subst h1; simp at e; subst e; exact ⟨d, rfl, h2⟩
  | _ :: _, _, i + 1, _, ⟨x, r, h1, _, h3⟩, e => by
    subst h1
    obtain ⟨y, q1, q2⟩ := Reps.at' (i := i) h3 (by simpa using e)
    exact ⟨y, by simpa using q1, q2⟩
theorem Reps.append : ∀ {ds es : List D} {xs ys : List V}, Reps K F ds xs → Reps K F es ys → Reps K F (ds ++ es) (xs ++ ys)
  | [], _, _, _, h, q => by cases h; exact q
  | _ :: _, _, _, _, ⟨x, r, h1, h2, h3⟩, q => by subst h1; exact ⟨x, _, rfl, h2, Reps.append h3 q⟩
theorem Reps.one {d : D} {x : V} (h : Rep K F d x) : Reps K F [d] [x] := ⟨x, [], rfl, h, rfl⟩
theorem Reps.snoc {ds : List D} {xs : List V} {d : D} {x : V} (h : Reps K F ds xs) (q : Rep K F d x) : Reps K F (ds ++ [d]) (xs ++ [x]) := h.append (.one q)
theorem Reps.take : ∀ (n : Nat) {ds : List D} {xs : List V}, Reps K F ds xs → Reps K F (ds.take n) (xs.take n)
  | 0, _, _, _ => rfl
  | _ + 1, [], _, h => by cases h; rfl
  | n + 1, _ :: _, _, ⟨x, r, h1, h2, h3⟩ => by subst h1; exact ⟨x, _, rfl, h2, Reps.take n h3⟩
theorem Reps.drop : ∀ (n : Nat) {ds : List D} {xs : List V}, Reps K F ds xs → Reps K F (ds.drop n) (xs.drop n)
  | 0, _, _, h => h
  | _ + 1, [], _, h => by cases h; rfl
  | n + 1, _ :: _, _, ⟨x, r, h1, h2, h3⟩ => by subst h1; exact Reps.drop n h3
theorem Reps.reverse : ∀ {ds : List D} {xs : List V}, Reps K F ds xs → Reps K F ds.reverse xs.reverse
  | [], _, h => by cases h; rfl
  | _ :: _, _, ⟨x, r, h1, h2, h3⟩ => by subst h1; rw [List.reverse_cons, List.reverse_cons]; exact (Reps.reverse h3).snoc h2
theorem Reps.set : ∀ (i : Nat) {ds : List D} {xs : List V} {d : D} {x : V}, Reps K F ds xs → Rep K F d x → Reps K F (ds.set i d) (xs.set i x)
  | _, [], _, _, _, h, _ => by cases h; rfl
  | 0, _ :: _, _, _, x, ⟨y, r, h1, h2, h3⟩, q => by subst h1; exact ⟨x, r, rfl, q, h3⟩
  | i + 1, _ :: _, _, _, _, ⟨y, r, h1, h2, h3⟩, q => by subst h1; exact ⟨y, _, rfl, h2, Reps.set i h3 q⟩
theorem Reps.erase : ∀ (i : Nat) {ds : List D} {xs : List V}, Reps K F ds xs → Reps K F (ds.eraseIdx i) (xs.eraseIdx i)
  | _, [], _, h => by cases h; rfl
  | 0, _ :: _, _, ⟨y, r, h1, h2, h3⟩ => by subst h1; exact h3
  | i + 1, _ :: _, _, ⟨y, r, h1, h2, h3⟩ => by subst h1; exact ⟨y, _, rfl, h2, Reps.erase i h3⟩
theorem Reps.ints : ∀ {ns : List Int} {xs : List V}, Reps K F (ns.map D.int) xs → xs = ns.map V.int
  | [], _, h => h
  | n :: ns, _, ⟨x, r, h1, h2, h3⟩ => by subst h1; rw [Reps.ints h3, show x = .int n from h2]; rfl
theorem Reps.of_ints : ∀ (ns : List Int), Reps K F (ns.map D.int) (ns.map V.int)
  | [] => rfl
  | n :: ns => ⟨.int n, _, rfl, rfl, Reps.of_ints ns⟩
theorem Reps.bls : ∀ {ns : List Bool} {xs : List V}, Reps K F (ns.map D.bl) xs → xs = ns.map V.bl
  | [], _, h => h
  | n :: ns, _, ⟨x, r, h1, h2, h3⟩ => by subst h1; rw [Reps.bls h3, show x = .bl n from h2]; rfl
theorem Reps.strs : ∀ {ns : List Str} {xs : List V}, Reps K F (ns.map D.str) xs → xs = ns.map V.str
  | [], _, h => h
  | n :: ns, _, ⟨x, r, h1, h2, h3⟩ => by subst h1; rw [Reps.strs h3, show x = .str n from h2]; rfl
theorem Reps.of_strs : ∀ (ns : List Str), Reps K F (ns.map D.str) (ns.map V.str)
  | [] => rfl
  | n :: ns => ⟨.str n, _, rfl, rfl, Reps.of_strs ns⟩
end

/-- the entries of a dict, the fields of an instance -/
def RepKV {κ : Type} (K : PySem.W.Frag) (F : Hp) : List (κ × D) → List (κ × V) → Prop
  | [], ys => ys = []
  | (k, d) :: r, ys => ∃ v t, ys = (k, v) :: t ∧ Rep K F d v ∧ RepKV K F r t
theorem RepKV.mono {κ : Type} {K : PySem.W.Frag} {F F' : Hp} (e : Same F F') : ∀ {xs : List (κ × D)} {ys : List (κ × V)}, RepKV K F xs ys → RepKV K F' xs ys
  | [], _, h => h
  | (_, _) :: _, _, ⟨v, t, h1, h2, h3⟩ => ⟨v, t, h1, Rep.mono e _ _ h2, RepKV.mono e h3⟩
theorem RepKV.len {κ : Type} {K : PySem.W.Frag} {F : Hp} : ∀ {xs : List (κ × D)} {ys : List (κ × V)}, RepKV K F xs ys → ys.length = xs.length
  | [], _, h => by cases (show _ = [] from h); rfl
  | (_, _) :: _, _, ⟨v, t, h1, h2, h3⟩ => by subst h1; simp [RepKV.len h3]
theorem RepKV.reps {κ : Type} {K : PySem.W.Frag} {F : Hp} : ∀ {xs : List (κ × D)} {ys : List (κ × V)}, RepKV K F xs ys → ys.map (·.1) = xs.map (·.1) ∧ Reps K F (xs.map (·.2)) (ys.map (·.2))
  | [], _, h => by cases (show _ = [] from h); exact ⟨rfl, rfl⟩
  | (k, _) :: _, _, ⟨v, t, h1, h2, h3⟩ => by
    subst h1
    obtain ⟨q1, q2⟩ := RepKV.reps h3
    exact ⟨by simp [q1], v, _, rfl, h2, q2⟩
/-- an object held by one name -/
def RepO (K : PySem.W.Frag) (F : Hp) : O → HO → Prop
  | .lst ds, h => ∃ xs, h = .lst xs ∧ Reps K F ds xs
  | .dk kvs, h => ∃ ys : List (Key × V), h = .dK ys ∧ RepKV K F kvs ys
  | .dt kvs, h => ∃ ys : List (List Key × V), h = .dT ys ∧ RepKV K F kvs ys
  | .ins C fs, h => ∃ (dx : Addr) (gs : List (Str × V)), h = .ins C dx gs ∧ RepKV K F fs gs
theorem RepO.mono {K : PySem.W.Frag} {F F' : Hp} (e : Same F F') : ∀ {o : O} {h : HO}, RepO K F o h → RepO K F' o h
  | .lst _, _, ⟨xs, h1, h2⟩ => ⟨xs, h1, Reps.mono e _ _ h2⟩
  | .dk _, _, ⟨xs, h1, h2⟩ => ⟨xs, h1, h2.mono e⟩
  | .dt _, _, ⟨xs, h1, h2⟩ => ⟨xs, h1, h2.mono e⟩
  | .ins _ _, _, ⟨dx, gs, h1, h2⟩ => ⟨dx, gs, h1, h2.mono e⟩

/-- what a name holds: nothing that is told, data, an object of its own (b: which of the lent ones, where it was lent to the def) -/
inductive S where
  | no | val (d : D) | own (b : Option Nat) (o : O) | exn (ns : List Str) (ds : List D)
abbrev Rho := List S

/-- a def's frame: what stood frozen, what stood at all, what was lent; the error that is handled, its dict -/
structure Fm where
  F0 : Hp
  He : Hp
  B : List Addr
  ex : Option (Addr × Addr × List (Str × V))

/-- where an own object comes from: lent (the k-th), or new since the entry -/
def BorIs (m : Fm) (b : Option Nat) (a : Addr) : Prop := match b with
  | some k => m.B[k]? = some a
  | none => m.He a = none
section
variable (K : PySem.W.Frag) (m : Fm)
def RelS (F H : Hp) : S → Option V → Prop
  | .no, _ => True
  | .exn ns ds, ov => ∃ a d gs, ov = some (.ref a) ∧ m.ex = some (a, d, gs) ∧ gs.map (·.1) = ns ∧ Reps K m.F0 ds (gs.map (·.2))
  | .val d, ov => ∃ v, ov = some v ∧ Rep K F d v
  | .own b o, ov => ∃ a ho, ov = some (.ref a) ∧ H a = some ho ∧ RepO K F o ho ∧ F a = none ∧ BorIs m b a
structure Rel (F : Hp) (ρ : Rho) (σ : St) (H : Hp) : Prop where
  sub0 : Same m.F0 F
  sub : Same F H
  prot : ∀ b o, m.He b = some o → b ∉ m.B → H b = some o
  grow : ∀ a, F a ≠ none → m.F0 a ≠ none ∨ m.He a = none
  bor : ∀ a ∈ m.B, H a ≠ none ∧ F a = none
  len : ρ.length = σ.length
  slot : ∀ (i : Nat) (s : S), ρ[i]? = some s → ∃ ov, σ[i]? = some ov ∧ RelS K m F H s ov
  dist : ∀ (i j : Nat) (a : Addr) (b : Option Nat) (o : O) (b' : Option Nat) (o' : O), i ≠ j → ρ[i]? = some (.own b o) → ρ[j]? = some (.own b' o') → σ[i]? = some (some (.ref a)) → σ[j]? = some (some (.ref a)) → False
  bh : ∀ a ∈ m.B, m.He a ≠ none
end

section
variable {K : PySem.W.Frag} {m : Fm} {F F' : Hp} {ρ : Rho} {σ : St} {H H' : Hp}
theorem RelS.mono (e : Same F F') (n : ∀ a o, H a = some o → F a = none → F' a = none ∧ H' a = some o) : ∀ {s : S} {ov : Option V}, RelS K m F H s ov → RelS K m F' H' s ov
  | .no, _, _ => trivial
  | .exn _ _, _, h => h
  | .val _, _, ⟨v, h1, h2⟩ => ⟨v, h1, Rep.mono e _ _ h2⟩
  | .own _ _, _, ⟨a, ho, h1, h2, h3, h4, h5⟩ => ⟨a, ho, h1, (n a ho h2 h4).2, RepO.mono e h3, (n a ho h2 h4).1, h5⟩
/-- the heap grows, frozen things are added at new places -/
theorem Rel.grown (r : Rel K m F ρ σ H) (e : Same F F') (s : Same F' H') (k : Same H H') (g : ∀ a, F' a ≠ none → F a ≠ none ∨ H a = none) : Rel K m F' ρ σ H' where
  sub0 := r.sub0.trans e
  sub := s
  prot := fun b o h n => k _ _ (r.prot b o h n)
  grow := fun a h => by
    rcases g a h with q | q
    · exact r.grow a q
    · cases z : m.He a with
      | none => exact .inr rfl
      | some o =>
        by_cases hb : a ∈ m.B
        · exact absurd q (r.bor a hb).1
        · rw [r.prot a o z hb] at q; cases q
  bor := fun a h => by
    obtain ⟨h1, h2⟩ := r.bor a h
    cases z : H a with
    | none => exact absurd z h1
    | some o =>
      refine ⟨by rw [k _ _ z]; simp, ?_⟩
      cases q : F' a with
      | none => rfl
      | some u =>
        rcases g a (by rw [q]; simp) with y | y
        · exact absurd h2 y
        · rw [z] at y; cases y
  len := r.len
  slot := fun i s' h => by
    obtain ⟨ov, h1, h2⟩ := r.slot i s' h
    refine ⟨ov, h1, h2.mono e fun a o q n => ⟨?_, k _ _ q⟩⟩
    cases z : F' a with
    | none => rfl
    | some u =>
      rcases g a (by rw [z]; simp) with y | y
      · exact absurd n y
      · rw [q] at y; cases y
  dist := r.dist
  bh := r.bh
/-- a new object, frozen at once -/
theorem Rel.fresh (r : Rel K m F ρ σ H) {p : Addr} {o : HO} (n : H p = none) : Rel K m (upd F p o) ρ σ (upd H p o) ∧ Same F (upd F p o) := by
  have hf : F p = none := by
    cases z : F p with
    | none => rfl
    | some u => rw [r.sub p u z] at n; cases n
  have e : Same F (upd F p o) := fun b u h => by rw [upd_ne (ne_of_none h hf)]; exact h
  refine ⟨r.grown e (fun b u h => ?_) (fun b u h => by rw [upd_ne (ne_of_none h n)]; exact h) (fun a h => ?_), e⟩
  · by_cases hb : b = p
    · subst hb; rw [upd_same] at h ⊢; exact h
    · rw [upd_ne hb] at h ⊢; exact r.sub b u h
  · by_cases hb : a = p
    · subst hb; exact .inr n
    · rw [upd_ne hb] at h; exact .inl h
/-- a new object, not frozen -/
theorem Rel.laid (r : Rel K m F ρ σ H) {p : Addr} {o : HO} (n : H p = none) : Rel K m F ρ σ (upd H p o) :=
  r.grown (Same.refl _) (fun b u h => by rw [upd_ne (ne_of_none (r.sub b u h) n)]; exact r.sub b u h) (fun b u h => by rw [upd_ne (ne_of_none h n)]; exact h) (fun a h => .inl h)
theorem Rel.he_none (r : Rel K m F ρ σ H) {p : Addr} (n : H p = none) : m.He p = none := by
  cases z : m.He p with
  | none => rfl
  | some o =>
    by_cases hb : p ∈ m.B
    · exact absurd n (r.bor p hb).1
    · rw [r.prot p o z hb] at n; cases n
theorem Rel.f_none (r : Rel K m F ρ σ H) {p : Addr} (n : H p = none) : F p = none := by
  cases z : F p with
  | none => rfl
  | some u => rw [r.sub p u z] at n; cases n
/-- a name is stored -/
theorem Rel.store (r : Rel K m F ρ σ H) (i : Nat) {s : S} {v : V} (h : RelS K m F H s (some v)) (nd : ∀ b o j b' o', s = .own b o → j ≠ i → ρ[j]? = some (.own b' o') → σ[j]? = some (some v) → False) : Rel K m F (ρ.set i s) (σ.set i (some v)) H where
  sub0 := r.sub0
  sub := r.sub
  prot := r.prot
  grow := r.grow
  bor := r.bor
  len := by simpa using r.len
  slot := fun j s' q => by
    by_cases e : j = i
    · subst e
      by_cases hl : j < ρ.length
      · rw [List.getElem?_set_self hl] at q; cases q
        exact ⟨some v, List.getElem?_set_self (r.len ▸ hl), h⟩
      · rw [List.getElem?_eq_none (by simpa using hl)] at q; cases q
    · rw [List.getElem?_set_ne (Ne.symm e)] at q
      obtain ⟨ov, h1, h2⟩ := r.slot j s' q
      exact ⟨ov, by rw [List.getElem?_set_ne (Ne.symm e)]; exact h1, h2⟩
  dist := by
    have key : ∀ (j k : Nat) (a : Addr) (b : Option Nat) (o : O) (b' : Option Nat) (o' : O), j ≠ k → (ρ.set i s)[j]? = some (.own b o) → (ρ.set i s)[k]? = some (.own b' o') → (σ.set i (some v))[j]? = some (some (.ref a)) → (σ.set i (some v))[k]? = some (some (.ref a)) → j = i → False := by
      intro j k a b o b' o' ne h1 h2 h3 h4 e
      subst e
      have hl : j < ρ.length := by
        by_cases hl : j < ρ.length
        · exact hl
        · rw [List.getElem?_eq_none (by simpa using hl)] at h1; cases h1
      rw [List.getElem?_set_ne ne] at h2
      rw [List.getElem?_set_ne ne] at h4
      rw [List.getElem?_set_self hl] at h1
      rw [List.getElem?_set_self (r.len ▸ hl)] at h3
      have h3' : v = .ref a := Option.some.inj (Option.some.inj h3)
      subst h3'
      exact nd b o k b' o' (Option.some.inj h1) (Ne.symm ne) h2 h4
    intro j k a b o b' o' ne h1 h2 h3 h4
    by_cases e : j = i
    · exact key j k a b o b' o' ne h1 h2 h3 h4 e
    · by_cases e' : k = i
      · exact key k j a b' o' b o (Ne.symm ne) h2 h1 h4 h3 e'
      · rw [List.getElem?_set_ne (Ne.symm e)] at h1
        rw [List.getElem?_set_ne (Ne.symm e)] at h3
        rw [List.getElem?_set_ne (Ne.symm e')] at h2
        rw [List.getElem?_set_ne (Ne.symm e')] at h4
        exact r.dist j k a b o b' o' ne h1 h2 h3 h4
  bh := r.bh
end
end Lt

/-! # Outcomes, judgements, expressions -/
namespace Lt
open PySem PySem.Spec L2

/-- an outcome: a value, an error of a class of the program's own, or nothing that is told -/
inductive Out (α : Type) where
  | ok (a : α) (ρ : Rho) | exc (C : Addr) (ns : List Str) (ds : List D) (ρ : Rho) | stuck
def Out.bind {α β : Type} (r : Out α) (k : α → Rho → Out β) : Out β := match r with
  | .ok a ρ => k a ρ
  | .exc C ns ds ρ => .exc C ns ds ρ
  | .stuck => .stuck
def lift {α : Type} (o : Option α) (ρ : Rho) : Out α := match o with
  | some a => .ok a ρ
  | none => .stuck
@[simp] theorem bind_ok {α β : Type} (a : α) (ρ : Rho) (k : α → Rho → Out β) : (Out.ok a ρ).bind k = k a ρ := (rfl)
@[simp] theorem bind_exc {α β : Type} (C : Addr) (ns : List Str) (ds : List D) (ρ : Rho) (k : α → Rho → Out β) : (Out.exc C ns ds ρ : Out α).bind k = .exc C ns ds ρ := (rfl)
@[simp] theorem bind_stuck {α β : Type} (k : α → Rho → Out β) : (Out.stuck : Out α).bind k = .stuck := (rfl)
@[simp] theorem lift_some {α : Type} (a : α) (ρ : Rho) : lift (some a) ρ = .ok a ρ := (rfl)
@[simp] theorem lift_none {α : Type} (ρ : Rho) : (lift none ρ : Out α) = .stuck := (rfl)

section
variable (K : PySem.W.Frag) (m : Fm) (W : WX)
/-- the error's own dict -/
def ExcAt (He F H : Hp) (ns : List Str) (ds : List D) (dd : Option Addr) : Prop :=
  (ns = [] ∧ ds = [] ∧ dd = none) ∨ ∃ (d : Addr) (gs : List (Str × V)), dd = some d ∧ H d = some (.xd gs) ∧ gs.map (·.1) = ns ∧ Reps K F ds (gs.map (·.2)) ∧ He d = none ∧ F d = none
theorem ExcAt.he {K : PySem.W.Frag} {He He' F H : Hp} {ns : List Str} {ds : List D} {dd : Option Addr} (x : ExcAt K He F H ns ds dd) (h : ∀ d, He d = none → He' d = none) : ExcAt K He' F H ns ds dd := by
  rcases x with x | ⟨d, gs, h1, h2, h3, h4, h5, h6⟩
  · exact .inl x
  · exact .inr ⟨d, gs, h1, h2, h3, h4, h _ h5, h6⟩
/-- what an outcome asks -/
def Aft {α : Type} (F : Hp) (σ : St) (r : Out α) (P : α → Rho → Hp → Hp → Prop) : Prop := match r with
  | .ok a ρ' => ∀ F' H', Rel K m F' ρ' σ H' → Same F F' → P a ρ' F' H'
  | .exc C ns ds ρ' => ∀ F' H' dd, Rel K m F' ρ' σ H' → Same F F' → ExcAt K m.He F' H' ns ds dd → W (.ref C) dd σ H'
  | .stuck => False
def tX {α : Type} (g : Rho → Out α) (P : (α → Rho → Hp → Hp → Prop)) (σ : St) (H : Hp) : Prop := ∃ F ρ, Rel K m F ρ σ H ∧ Aft K m W F σ (g ρ) P
def tD (g : Rho → Out D) : TE := fun σ H Q => tX K m W g (fun d _ F' H' => ∀ v, Rep K F' d v → Q v H') σ H
def tBl (g : Rho → Out Bool) : TT := fun σ H Q => tX K m W g (fun b _ _ H' => Q b H') σ H
def tL (g : Rho → Out (List D)) : TA := fun σ H Q => tX K m W g (fun ds _ F' H' => ∀ vs, Reps K F' ds vs → Q vs H') σ H
end

section
variable {K : PySem.W.Frag} {m : Fm} {W : WX} {F F' H : Hp} {σ : St} {ρ : Rho} {α β : Type}
theorem Aft.weak {r : Out α} {P : α → Rho → Hp → Hp → Prop} (h : Aft K m W F σ r P) (e : Same F F') : Aft K m W F' σ r P := by
  cases r with
  | ok a ρ' => exact fun F2 H2 r s => h F2 H2 r (e.trans s)
  | exc C ns ds ρ' => exact fun F2 H2 dd r s x => h F2 H2 dd r (e.trans s) x
  | stuck => exact h
theorem Aft.imp {r : Out α} {P P' : α → Rho → Hp → Hp → Prop} (h : Aft K m W F σ r P) (f : ∀ a ρ' F' H', Rel K m F' ρ' σ H' → Same F F' → P a ρ' F' H' → P' a ρ' F' H') : Aft K m W F σ r P' := by
  cases r with
  | ok a ρ' => exact fun F2 H2 r s => f _ _ _ _ r s (h F2 H2 r s)
  | exc C ns ds ρ' => exact h
  | stuck => exact h
theorem Aft.bind {r : Out α} {k : α → Rho → Out β} {P : β → Rho → Hp → Hp → Prop} (h : Aft K m W F σ (r.bind k) P) : Aft K m W F σ r (fun a ρ' F' _ => Aft K m W F' σ (k a ρ') P) := by
  cases r with
  | ok a ρ' => exact fun F2 H2 _ s => (show Aft K m W F σ (k a ρ') P from h).weak s
  | exc C ns ds ρ' => exact h
  | stuck => exact h
theorem Aft.lift {o : Option α} {P : α → Rho → Hp → Hp → Prop} (h : Aft K m W F σ (lift o ρ) P) : ∃ a, o = some a ∧ ∀ F' H', Rel K m F' ρ σ H' → Same F F' → P a ρ F' H' := by
  cases o with
  | none => exact h.elim
  | some a => exact ⟨a, rfl, h⟩
end

theorem PE.imp {X : Cx} {e : Expr} {t t' : TE} (h : PE X e t) (i : ∀ σ H Q, t' σ H Q → t σ H Q) : PE X e t' := ⟨fun pins s σ H Q I q => h.run pins s σ H Q I (i σ H Q q)⟩
theorem PT.imp {X : Cx} {e : Expr} {t t' : TT} (h : PT X e t) (i : ∀ σ H Q, t' σ H Q → t σ H Q) : PT X e t' := ⟨fun pins s σ H Q I q => h.run pins s σ H Q I (i σ H Q q)⟩
theorem PW.imp {X : Cx} {e : Expr} {t t' : TT} (h : PW X e t) (i : ∀ σ H Q, t' σ H Q → t σ H Q) : PW X e t' := ⟨fun wh pins s σ H Q I q => h.run wh pins s σ H Q I (i σ H Q q)⟩
theorem PA.imp {X : Cx} {e : List Expr} {t t' : TA} (h : PA X e t) (i : ∀ σ H Q, t' σ H Q → t σ H Q) : PA X e t' := ⟨fun pos pins s σ H Q I q => h.run pos pins s σ H Q I (i σ H Q q)⟩
theorem PS.imp {X : Cx} {e : Stmt} {t t' : TS} (h : PS X e t) (i : ∀ D σ H, t' D σ H → t D σ H) : PS X e t' := ⟨fun pins s σ H Q I q => h.run pins s σ H Q I (i Q σ H q)⟩
theorem PSs.imp {X : Cx} {e : List Stmt} {t t' : TS} (h : PSs X e t) (i : ∀ D σ H, t' D σ H → t D σ H) : PSs X e t' := ⟨fun pins s σ H Q I q => h.run pins s σ H Q I (i Q σ H q)⟩
theorem PG.imp {X : Cx} {e : Expr} {t t' : TG} (h : PG X e t) (i : ∀ v σ H Q, t' v σ H Q → t v σ H Q) : PG X e t' := ⟨fun pins s σ H v u Q I r q => h.run pins s σ H v u Q I r (i v σ H Q q)⟩
theorem PI.imp {X : Cx} {tg e : Expr} {t t' : TI} (h : PI X tg e t) (i : ∀ σ H Q, t' σ H Q → t σ H Q) : PI X tg e t' := ⟨fun pins s σ H Q I q => h.run pins s σ H Q I (i σ H Q q)⟩

abbrev DE (X : Cx) (m : Fm) (W : WX) (e : Expr) (g : Rho → Out D) : Prop := PE X e (tD X.K m W g)
abbrev DT (X : Cx) (m : Fm) (W : WX) (e : Expr) (g : Rho → Out Bool) : Prop := PT X e (tBl X.K m W g)
abbrev DW (X : Cx) (m : Fm) (W : WX) (e : Expr) (g : Rho → Out Bool) : Prop := PW X e (tBl X.K m W g)
abbrev DL (X : Cx) (m : Fm) (W : WX) (es : List Expr) (g : Rho → Out (List D)) : Prop := PA X es (tL X.K m W g)

/-! ### names, constants -/
def eVar (i : Nat) : Rho → Out D := fun ρ => match ρ[i]? with
  | some (.val d) => .ok d ρ
  | _ => .stuck
def eC (d : D) : Rho → Out D := fun ρ => .ok d ρ
section
variable {X : Cx} {m : Fm} {W : WX}
theorem d_var (i : Nat) {x : Str} {pos : Pos} (hN : X.N[i]? = some x := by rfl) (hv : Vis X.env.scope x := by first | exact Or.inl rfl | exact Or.inr (Or.inl rfl) | exact Or.inr (Or.inr rfl)) (hd : (x == ("__debug__" : Str)) = false := by decide)
    (hcd : (x == ("__classdict__" : Str)) = false := by decide) : DE X m W (.Name x pos) (eVar i) := by
  refine PE.imp (pe_var (i := i) hN hv hd hcd) fun σ H Q h => ?_
  obtain ⟨F, ρ, r, a⟩ := h
  unfold eVar at a
  cases e : ρ[i]? with
  | none => rw [e] at a; exact a.elim
  | some s =>
    rw [e] at a
    cases s with
    | val d =>
      obtain ⟨ov, h1, v, h2, h3⟩ := r.slot i _ e
      subst h2
      exact ⟨v, h1, a F H r (Same.refl _) v h3⟩
    | no => exact a.elim
    | own _ _ => exact a.elim
    | exn _ _ => exact a.elim
theorem d_const {e : Expr} {v : V} {d : D} (h : PE X e (tC v)) (hr : ∀ F, Rep X.K F d v) : DE X m W e (eC d) := by
  refine PE.imp h fun σ H Q h => ?_
  obtain ⟨F, ρ, r, a⟩ := h
  exact a F H r (Same.refl _) v (hr F)
theorem d_int {i j pos} : DE X m W (.Constant (.int i) j pos) (eC (.int i)) := d_const pe_int fun _ => rfl
theorem d_bl {b j pos} : DE X m W (.Constant (.bool b) j pos) (eC (.bl b)) := d_const pe_bl fun _ => rfl
theorem d_non {j pos} : DE X m W (.Constant .none j pos) (eC .non) := d_const pe_non fun _ => rfl
theorem d_str {x j pos} : DE X m W (.Constant (.str x) j pos) (eC (.str x)) := d_const pe_str fun _ => rfl
theorem d_glob {x : Str} {d : D} {v : V} {u : Value} {pos : Pos} (hg : Gl X x) (hm : X.mg x = some u) (rv : RelV v u) (hr : ∀ F, Rep X.K F d v) (hd : (x == ("__debug__" : Str)) = false := by decide) : DE X m W (.Name x pos) (eC d) :=
  d_const (pe_glob hg hm rv hd) hr
end

/-! ### operators -/
/-- an operation on data, behind an operation on values -/
def OpD (K : PySem.W.Frag) (m : Fm) (W : WX) (f : D → D → Option D) (r : R2) : Prop :=
  ∀ (F : Hp) (ρ : Rho) (σ : St) (H : Hp) (a b : D) (x y : V) (Q : VK), Rel K m F ρ σ H → Rep K F a x → Rep K F b y → Aft K m W F σ (lift (f a b) ρ) (fun d _ F' H' => ∀ v, Rep K F' d v → Q v H') → r x y H Q
def eBin (f : D → D → Option D) (ga gb : Rho → Out D) : Rho → Out D := fun ρ => (ga ρ).bind fun a ρ1 => (gb ρ1).bind fun b ρ2 => lift (f a b) ρ2
section
variable {X : Cx} {m : Fm} {W : WX} {K : PySem.W.Frag}
theorem bin_of {ga gb : Rho → Out D} {f : D → D → Option D} {r : R2} (hd : OpD K m W f r) {σ : St} {H : Hp} {Q : VK} (h : tD K m W (eBin f ga gb) σ H Q) : tOp r (tD K m W ga) (tD K m W gb) σ H Q := by
  obtain ⟨F, ρ, rl, a⟩ := h
  refine ⟨F, ρ, rl, (Aft.bind a).imp fun d ρ1 F1 H1 r1 s1 a1 v rv => ?_⟩
  refine ⟨F1, ρ1, r1, (Aft.bind a1).imp fun e ρ2 F2 H2 r2 s2 a2 y ry => ?_⟩
  exact hd F2 ρ2 σ H2 d e v y Q r2 (Rep.mono s2 _ _ rv) ry a2
theorem d_op {a b : Expr} {op : Operator} {r : R2} {f : D → D → Option D} {ga gb : Rho → Out D} {pos : Pos} (ho : OpR X (binaryOp op) r) (hd : OpD X.K m W f r) (ha : DE X m W a ga) (hb : DE X m W b gb) : DE X m W (.BinOp a op b pos) (eBin f ga gb) :=
  PE.imp (pe_op ho ha hb) fun σ H Q h => bin_of hd h
theorem d_cmp {a b : Expr} {op : CmpOp} {r : R2} {f : D → D → Option D} {ga gb : Rho → Out D} {pos : Pos} (ho : OpR X (compareOp op) r) (hd : OpD X.K m W f r) (ha : DE X m W a ga) (hb : DE X m W b gb) (hm : behindInMarks op b = false := by first | exact nobehind _ (by decide) (by decide) | rfl) :
    DE X m W (.Compare a [op] [b] pos) (eBin f ga gb) := PE.imp (pe_cmpR ho ha hb hm) fun σ H Q h => bin_of hd h
def toB (d : D) : Option Bool := match d with
  | .bl b => some b
  | _ => none
/-- an expression that gives a bool, as a test -/
def eTest (g : Rho → Out D) : Rho → Out Bool := fun ρ => (g ρ).bind fun d ρ1 => lift (toB d) ρ1
theorem test_of {t : TE} {g : Rho → Out D} (h : ∀ σ H Q, tD K m W g σ H Q → t σ H Q) {σ : St} {H : Hp} {Q : Bool → Hp → Prop} (q : tBl K m W (eTest g) σ H Q) : tB t σ H Q := by
  obtain ⟨F, ρ, rl, a⟩ := q
  refine h _ _ _ ⟨F, ρ, rl, (Aft.bind a).imp fun d ρ1 F1 H1 r1 s1 a1 v rv => ?_⟩
  obtain ⟨b, hb, q⟩ := Aft.lift a1
  cases d <;> simp [toB] at hb
  subst hb
  exact ⟨_, rv, q F1 H1 r1 (Same.refl _)⟩
theorem d_testcmp {a b : Expr} {op : CmpOp} {r : R2} {f : D → D → Option D} {ga gb : Rho → Out D} {pos : Pos} (ho : OpR X (compareOp op) r) (hd : OpD X.K m W f r) (ha : DE X m W a ga) (hb : DE X m W b gb) (hm : behindInMarks op b = false := by first | exact nobehind _ (by decide) (by decide) | rfl) :
    DT X m W (.Compare a [op] [b] pos) (eTest (eBin f ga gb)) := PT.imp (pt_cmpR ho ha hb hm) fun σ H Q h => test_of (fun _ _ _ => bin_of hd) h
theorem d_testval {e : Expr} {g : Rho → Out D} (h : DE X m W e g) (he : ∀ whole, isTrue e X.env whole = (do let v ← whole; standAt e.pos; holding [v] (truthy v)) := by intro _; rfl) : DT X m W e (eTest g) :=
  PT.imp (pt_val h he) fun σ H Q h => test_of (fun _ _ _ => id) h
end

end Lt

/-! # The operations on data -/
namespace Lt
open PySem PySem.Spec L2

theorem OpR.or {X : Cx} {f : Value → Value → Sem Value} {r r' : R2} (h : OpR X f r) (h' : OpR X f r') : OpR X f (fun x y H Q => r x y H Q ∨ r' x y H Q) := by
  intro pins s σ H x y v u Q I rx ry q
  rcases q with q | q
  · exact h pins s σ H x y v u Q I rx ry q
  · exact h' pins s σ H x y v u Q I rx ry q

section
variable {K : PySem.W.Frag} {m : Fm} {W : WX} {F H : Hp} {σ : St} {ρ : Rho}
/-- a new tuple, a new list as the answer -/
theorem new_tup {ds : List D} {xs : List V} {Q : VK} {p : Addr} (r : Rel K m F ρ σ H) (h : ∀ F' H', Rel K m F' ρ σ H' → Same F F' → ∀ v, Rep K F' (.tup ds) v → Q v H') (q : Reps K F ds xs) (n : H p = none) : Q (.ref p) (upd H p (.tup xs)) := by
  obtain ⟨r', e⟩ := r.fresh (o := .tup xs) n
  exact h _ _ r' e _ ⟨p, xs, rfl, SqT.of upd_same, Reps.mono e _ _ q⟩
theorem new_lst {ds : List D} {xs : List V} {Q : VK} {p : Addr} (r : Rel K m F ρ σ H) (h : ∀ F' H', Rel K m F' ρ σ H' → Same F F' → ∀ v, Rep K F' (.lst ds) v → Q v H') (q : Reps K F ds xs) (n : H p = none) : Q (.ref p) (upd H p (.lst xs)) := by
  obtain ⟨r', e⟩ := r.fresh (o := .lst xs) n
  exact h _ _ r' e _ ⟨p, xs, rfl, upd_same, Reps.mono e _ _ q⟩
theorem Rel.tupOf (r : Rel K m F ρ σ H) {ds : List D} {v : V} (h : Rep K F (.tup ds) v) : ∃ a xs, v = .ref a ∧ SqT K H a xs ∧ Reps K F ds xs := by
  obtain ⟨a, xs, e, q, z⟩ := h
  exact ⟨a, xs, e, Same.seqT r.sub q, z⟩
theorem Rel.lstOf (r : Rel K m F ρ σ H) {ds : List D} {v : V} (h : Rep K F (.lst ds) v) : ∃ a xs, v = .ref a ∧ H a = some (.lst xs) ∧ Reps K F ds xs := by
  obtain ⟨a, xs, e, q, z⟩ := h
  exact ⟨a, xs, e, r.sub _ _ q, z⟩
end

/-- {} -/
theorem d_emp {X : Cx} {m : Fm} {W : WX} {pos : Pos} : DE X m W (.Dict [] [] pos) (eC .emp) := PE.imp pe_dnewK fun σ H Q h => by
  obtain ⟨F, ρ, r, a⟩ := h
  intro p n
  obtain ⟨r1, s1⟩ := r.fresh (o := .dK []) n
  exact a _ _ r1 s1 _ ⟨p, rfl, upd_same ..⟩

/-! ### + - * // % ** -/
def addD : D → D → Option D
  | .int i, .int j => some (.int (i + j))
  | .lst xs, .lst ys => if xs.length + ys.length ≤ sizeLine then some (.lst (xs ++ ys)) else none
  | .tup xs, .tup ys => if xs.length + ys.length ≤ sizeLine then some (.tup (xs ++ ys)) else none
  | .str x, .str y => if x.length + y.length ≤ sizeLine then some (.str (x ++ y)) else none
  | _, _ => none
abbrev rAddA (K : PySem.W.Frag) : R2 := fun x y H Q => (rI0 (fun i j => .int (i + j)) x y H Q ∨ rCat x y H Q) ∨ (rCatA K x y H Q ∨ ∃ i j, x = .str i ∧ y = .str j ∧ i.length + j.length ≤ sizeLine ∧ Q (.str (i ++ j)) H)
theorem or_add {X : Cx} : OpR X (binaryOp .Add) (rAddA X.K) := OpR.or (OpR.or op_add op_cat) (OpR.or op_catA op_add_str)
theorem od_add {K : PySem.W.Frag} {m : Fm} {W : WX} : OpD K m W addD (rAddA K) := by
  intro F ρ σ H a b x y Q r ha hb h
  obtain ⟨d, hd, h9⟩ := Aft.lift h
  clear h
  cases a <;> cases b <;> simp only [addD, reduceCtorEq] at hd
  case int.int i j =>
    cases hd
    exact .inl (.inl ⟨i, j, ha, hb, h9 F H r (Same.refl _) _ rfl⟩)
  case str.str i j =>
    split at hd <;> cases hd
    rename_i hz
    exact .inr (.inr ⟨i, j, ha, hb, hz, h9 F H r (Same.refl _) _ rfl⟩)
  case lst.lst xs ys =>
    split at hd <;> cases hd
    rename_i hz
    obtain ⟨p, vs, rfl, h1, h2⟩ := r.lstOf ha
    obtain ⟨q, ws, rfl, h3, h4⟩ := r.lstOf hb
    exact .inl (.inr ⟨p, q, vs, ws, rfl, rfl, h1, h3, by rw [h2.len, h4.len]; exact hz, fun z nz => new_lst r h9 (h2.append h4) nz⟩)
  case tup.tup xs ys =>
    split at hd <;> cases hd
    rename_i hz
    obtain ⟨p, vs, rfl, h1, h2⟩ := r.tupOf ha
    obtain ⟨q, ws, rfl, h3, h4⟩ := r.tupOf hb
    refine .inr (.inl ⟨p, q, vs, ws, rfl, rfl, h1, h3, by rw [h2.len, h4.len]; exact hz, fun e => ?_, fun _ e => ?_, fun _ _ z nz => new_tup r h9 (h2.append h4) nz⟩)
    · subst e
      have e2 : xs = [] := by simpa using h2.len.symm
      subst e2
      exact h9 F H r (Same.refl _) _ hb
    · subst e
      have e2 : ys = [] := by simpa using h4.len.symm
      subst e2
      exact h9 F H r (Same.refl _) _ (by simpa using ha)
def subD : D → D → Option D
  | .int i, .int j => some (.int (i - j))
  | _, _ => none
theorem od_sub {K : PySem.W.Frag} {m : Fm} {W : WX} : OpD K m W subD (rI0 fun i j => .int (i - j)) := by
  intro F ρ σ H a b x y Q r ha hb h
  obtain ⟨d, hd, h9⟩ := Aft.lift h
  clear h
  cases a <;> cases b <;> simp only [subD, reduceCtorEq] at hd
  cases hd
  exact ⟨_, _, ha, hb, h9 F H r (Same.refl _) _ rfl⟩
def mulD : D → D → Option D
  | .int i, .int j => if i.natAbs.log2 + j.natAbs.log2 < 1000000 then some (.int (i * j)) else none
  | .lst xs, .int k => if -(2 ^ 62) ≤ k ∧ k < 2 ^ 62 ∧ xs.length * k.toNat ≤ sizeLine then some (.lst (List.replicate k.toNat xs).flatten) else none
  | .tup xs, .int k => if xs ≠ [] ∧ 2 ≤ k ∧ k ≤ 1000 ∧ xs.length ≤ 1000 then some (.tup (List.replicate k.toNat xs).flatten) else none
  | _, _ => none
theorem reps_rep {K : PySem.W.Frag} {F : Hp} {ds : List D} {xs : List V} (h : Reps K F ds xs) : ∀ k : Nat, Reps K F (List.replicate k ds).flatten (List.replicate k xs).flatten
  | 0 => rfl
  | k + 1 => by rw [List.replicate_succ, List.replicate_succ, List.flatten_cons, List.flatten_cons]; exact h.append (reps_rep h k)
abbrev rMulA (K : PySem.W.Frag) : R2 := fun x y H Q => (rI CMulW (fun i j => .int (i * j)) x y H Q ∨ rRep x y H Q) ∨ rRepT K x y H Q
theorem or_mul {X : Cx} : OpR X (binaryOp .Mult) (rMulA X.K) := OpR.or (OpR.or op_mulW op_rep) op_repT
theorem od_mul {K : PySem.W.Frag} {m : Fm} {W : WX} : OpD K m W mulD (rMulA K) := by
  intro F ρ σ H a b x y Q r ha hb h
  obtain ⟨d, hd, h9⟩ := Aft.lift h
  clear h
  cases a <;> cases b <;> simp only [mulD, reduceCtorEq] at hd
  case int.int i j =>
    split at hd <;> cases hd
    rename_i hz
    exact .inl (.inl ⟨i, j, ha, hb, hz, h9 F H r (Same.refl _) _ rfl⟩)
  case lst.int xs k =>
    split at hd <;> cases hd
    rename_i hz
    obtain ⟨p, vs, rfl, h1, h2⟩ := r.lstOf ha
    obtain ⟨z1, z2, z3⟩ := hz
    exact .inl (.inr ⟨p, k, vs, rfl, hb, h1, by omega, by omega, by rw [h2.len]; exact z3, fun z nz => new_lst r h9 (reps_rep h2 _) nz⟩)
  case tup.int xs k =>
    split at hd <;> cases hd
    rename_i hz
    obtain ⟨p, vs, rfl, h1, h2⟩ := r.tupOf ha
    obtain ⟨z0, z1, z2, z3⟩ := hz
    refine .inr ⟨p, k, vs, rfl, hb, h1, fun e => z0 ?_, z1, z2, by rw [h2.len]; exact z3, fun z nz => new_tup r h9 (reps_rep h2 _) nz⟩
    subst e
    simpa using h2.len.symm
def fdivD : D → D → Option D
  | .int i, .int j => if 0 < j ∧ j.natAbs.log2 < 9000 then some (.int (i / j)) else none
  | _, _ => none
theorem od_fdiv {K : PySem.W.Frag} {m : Fm} {W : WX} : OpD K m W fdivD (rI CDivW fun i j => .int (i / j)) := by
  intro F ρ σ H a b x y Q r ha hb h
  obtain ⟨d, hd, h9⟩ := Aft.lift h
  clear h
  cases a <;> cases b <;> simp only [fdivD, reduceCtorEq] at hd
  split at hd <;> cases hd
  rename_i hz
  exact ⟨_, _, ha, hb, hz, h9 F H r (Same.refl _) _ rfl⟩
def modD : D → D → Option D
  | .int i, .int j => if 0 < j then some (.int (i % j)) else none
  | _, _ => none
theorem od_mod {K : PySem.W.Frag} {m : Fm} {W : WX} : OpD K m W modD (rI (fun _ j => 0 < j) fun i j => .int (i % j)) := by
  intro F ρ σ H a b x y Q r ha hb h
  obtain ⟨d, hd, h9⟩ := Aft.lift h
  clear h
  cases a <;> cases b <;> simp only [modD, reduceCtorEq] at hd
  split at hd <;> cases hd
  rename_i hz
  exact ⟨_, _, ha, hb, hz, h9 F H r (Same.refl _) _ rfl⟩
def powD : D → D → Option D
  | .int i, .int j => if 0 ≤ j ∧ j ≤ 1000000 ∧ i.natAbs < 2 ^ 64 then some (.int (i ^ j.toNat)) else none
  | _, _ => none
theorem od_pow {K : PySem.W.Frag} {m : Fm} {W : WX} : OpD K m W powD (rI CPow fun i j => .int (i ^ j.toNat)) := by
  intro F ρ σ H a b x y Q r ha hb h
  obtain ⟨d, hd, h9⟩ := Aft.lift h
  clear h
  cases a <;> cases b <;> simp only [powD, reduceCtorEq] at hd
  split at hd <;> cases hd
  rename_i hz
  exact ⟨_, _, ha, hb, hz, h9 F H r (Same.refl _) _ rfl⟩

/-! ### comparisons -/
def cmpI (p : Int → Int → Bool) : D → D → Option D
  | .int i, .int j => some (.bl (p i j))
  | _, _ => none
theorem od_cmpI {K : PySem.W.Frag} {m : Fm} {W : WX} {p : Int → Int → Bool} : OpD K m W (cmpI p) (rI0 fun i j => .bl (p i j)) := by
  intro F ρ σ H a b x y Q r ha hb h
  obtain ⟨d, hd, h9⟩ := Aft.lift h
  clear h
  cases a <;> cases b <;> simp only [cmpI, reduceCtorEq] at hd
  cases hd
  exact ⟨_, _, ha, hb, h9 F H r (Same.refl _) _ rfl⟩
mutual
def toP : D → PyData
  | .non => .none
  | .bl b => .bool b
  | .int i => .int i
  | .str x => .str x
  | .tup ds => .tuple (toPs ds)
  | .lst ds => .list (toPs ds)
  | .scr _ => .dict []
  | .emp => .dict []
  | .ins _ _ _ => .dict []
def toPs : List D → List PyData
  | [] => []
  | d :: ds => toP d :: toPs ds
end
mutual
theorem dp_of {K : PySem.W.Frag} {H : Hp} : ∀ (d : D) (v : V), (toP d).canLay0 = true → Rep K H d v → Dp K H v (toP d)
  | .non, v, _, h => by cases (show v = _ from h); exact .non
  | .bl b, v, _, h => by cases (show v = _ from h); exact .bl b
  | .int b, v, _, h => by cases (show v = _ from h); exact .int b
  | .str b, v, _, h => by cases (show v = _ from h); exact .str b
  | .tup ds, v, l, h => by
    obtain ⟨a, xs, e, q, z⟩ := (show ∃ a xs, v = .ref a ∧ SqT K H a xs ∧ Reps K H ds xs from h)
    subst e
    exact .tup q (dps_of ds xs (by simpa [toP, PyData.canLay0] using l) z)
  | .lst ds, v, l, h => by
    obtain ⟨a, xs, e, q, z⟩ := (show ∃ a xs, v = .ref a ∧ H a = some (.lst xs) ∧ Reps K H ds xs from h)
    subst e
    exact .lst (SqL.of q) (dps_of ds xs (by simpa [toP, PyData.canLay0] using l) z)
  | .scr _, _, l, _ => by simp [toP, PyData.canLay0] at l
  | .emp, _, l, _ => by simp [toP, PyData.canLay0] at l
  | .ins _ _ _, _, l, _ => by simp [toP, PyData.canLay0] at l
theorem dps_of {K : PySem.W.Frag} {H : Hp} : ∀ (ds : List D) (vs : List V), PyData.canLayAll0 (toPs ds) = true → Reps K H ds vs → DpAll K H vs (toPs ds)
  | [], vs, _, h => by cases (show vs = [] from h); exact .nil
  | d :: ds, vs, l, h => by
    obtain ⟨x, r, e, h1, h2⟩ := (show ∃ x r, vs = x :: r ∧ Rep K H d x ∧ Reps K H ds r from h)
    subst e
    have l' : (toP d).canLay0 = true ∧ PyData.canLayAll0 (toPs ds) = true := by simpa [toPs, PyData.canLayAll0] using l
    exact .cons (dp_of d x l'.1 h1) (dps_of ds r l'.2 h2)
end
def okP (d : D) : Bool := SeqAt.shaped (toP d)
def eqB (a b : D) : Bool := PyData.eqv (toP a) (toP b)
def eqD (a b : D) : Option D := if okP a = true ∧ okP b = true then some (.bl (eqB a b)) else none
def neD (a b : D) : Option D := if okP a = true ∧ okP b = true then some (.bl (!eqB a b)) else none
theorem od_eq {K : PySem.W.Frag} {m : Fm} {W : WX} : OpD K m W eqD (rEqD K) := by
  intro F ρ σ H a b x y Q r ha hb h
  obtain ⟨d, hd, h9⟩ := Aft.lift h
  clear h
  unfold eqD at hd
  split at hd <;> cases hd
  rename_i hz
  exact ⟨_, _, dp_of _ _ (SeqAt.canLay_of_shaped hz.1) (Rep.mono r.sub _ _ ha), dp_of _ _ (SeqAt.canLay_of_shaped hz.2) (Rep.mono r.sub _ _ hb), hz.1, hz.2, h9 F H r (Same.refl _) _ rfl⟩
theorem od_ne {K : PySem.W.Frag} {m : Fm} {W : WX} : OpD K m W neD (rNeD K) := by
  intro F ρ σ H a b x y Q r ha hb h
  obtain ⟨d, hd, h9⟩ := Aft.lift h
  clear h
  unfold neD at hd
  split at hd <;> cases hd
  rename_i hz
  exact ⟨_, _, dp_of _ _ (SeqAt.canLay_of_shaped hz.1) (Rep.mono r.sub _ _ ha), dp_of _ _ (SeqAt.canLay_of_shaped hz.2) (Rep.mono r.sub _ _ hb), hz.1, hz.2, h9 F H r (Same.refl _) _ rfl⟩
/-- flat data: what in and not in look at -/
def flatD : D → Bool
  | .non | .bl _ | .int _ | .str _ => true
  | _ => false
def inB (a : D) (ds : List D) : Bool := ds.any fun d => eqB d a
def inD (neg : Bool) : D → D → Option D := fun a b => match b with
  | .tup ds | .lst ds => if flatD a = true ∧ ds.all flatD = true then some (.bl (if neg then !inB a ds else inB a ds)) else none
  | _ => none
theorem flat_rep {K : PySem.W.Frag} {F : Hp} : ∀ {d : D} {v : V}, flatD d = true → Rep K F d v → flatV v = true
  | .non, v, _, h => by cases (show v = _ from h); rfl
  | .bl b, v, _, h => by cases (show v = _ from h); rfl
  | .int b, v, _, h => by cases (show v = _ from h); rfl
  | .str b, v, _, h => by cases (show v = _ from h); rfl
theorem eqV_rep {K : PySem.W.Frag} {F : Hp} {d e : D} {v w : V} (fd : flatD d = true) (fe : flatD e = true) (h : Rep K F d v) (q : Rep K F e w) : eqV v w = eqB d e := by
  cases d <;> simp [flatD] at fd <;> cases e <;> simp [flatD] at fe <;> cases h <;> cases q <;> simp [eqV, eqB, toP, PyData.eqv]
theorem inV_rep {K : PySem.W.Frag} {F : Hp} {a : D} {x : V} (fa : flatD a = true) (ha : Rep K F a x) : ∀ {ds : List D} {xs : List V}, ds.all flatD = true → Reps K F ds xs → xs.all flatV = true ∧ inV x xs = inB a ds
  | [], xs, _, h => by cases (show xs = [] from h); exact ⟨rfl, rfl⟩
  | d :: ds, xs, f, h => by
    obtain ⟨y, r, e, h1, h2⟩ := (show ∃ y r, xs = y :: r ∧ Rep K F d y ∧ Reps K F ds r from h)
    subst e
    rw [List.all_cons, Bool.and_eq_true] at f
    obtain ⟨i1, i2⟩ := inV_rep fa ha f.2 h2
    refine ⟨by rw [List.all_cons, i1, flat_rep f.1 h1]; rfl, ?_⟩
    unfold inV inB at *
    rw [List.any_cons, List.any_cons, i2, eqV_rep f.1 fa h1 ha]
theorem od_in {K : PySem.W.Frag} {m : Fm} {W : WX} {neg : Bool} : OpD K m W (inD neg) (rIn K neg) := by
  intro F ρ σ H a b x y Q r ha hb h
  obtain ⟨d, hd, h9⟩ := Aft.lift h
  clear h
  cases b <;> simp only [inD, reduceCtorEq] at hd
  case tup ds =>
    split at hd <;> cases hd
    rename_i hz
    obtain ⟨p, vs, rfl, h1, h2⟩ := r.tupOf hb
    obtain ⟨i1, i2⟩ := inV_rep hz.1 ha hz.2 h2
    refine ⟨p, vs, rfl, .inr h1, flat_rep hz.1 ha, i1, ?_⟩
    rw [i2]
    exact h9 F H r (Same.refl _) _ rfl
  case lst ds =>
    split at hd <;> cases hd
    rename_i hz
    obtain ⟨p, vs, rfl, h1, h2⟩ := r.lstOf hb
    obtain ⟨i1, i2⟩ := inV_rep hz.1 ha hz.2 h2
    refine ⟨p, vs, rfl, .inl (SqL.of h1), flat_rep hz.1 ha, i1, ?_⟩
    rw [i2]
    exact h9 F H r (Same.refl _) _ rfl
/-- is None, is not None -/
def isN (neg : Bool) : D → D → Option D := fun a b => match b with
  | .non => some (.bl (match a with | .non => !neg | _ => neg))
  | _ => none
theorem rep_non {K : PySem.W.Frag} {F : Hp} {d : D} {v : V} (h : Rep K F d v) : decide (v = .non) = (match d with | .non => true | _ => false) := by
  cases d <;> simp only [Rep] at h
  case tup => obtain ⟨a, xs, e, _⟩ := h; subst e; rfl
  case lst => obtain ⟨a, xs, e, _⟩ := h; subst e; rfl
  case scr => obtain ⟨a, e, _⟩ := h; subst e; rfl
  case ins => obtain ⟨a, _, _, e, _⟩ := h; subst e; rfl
  case emp => obtain ⟨a, e, _⟩ := h; subst e; rfl
  all_goals (subst h; rfl)
theorem od_isN {K : PySem.W.Frag} {m : Fm} {W : WX} : OpD K m W (isN false) (fun x y H Q => y = .non ∧ Q (.bl (decide (x = .non))) H) := by
  intro F ρ σ H a b x y Q r ha hb h
  obtain ⟨d, hd, h9⟩ := Aft.lift h
  clear h
  cases b <;> simp only [isN, reduceCtorEq] at hd
  cases hd
  refine ⟨hb, ?_⟩
  rw [rep_non ha]
  refine h9 F H r (Same.refl _) _ ?_
  cases a <;> rfl
theorem od_notN {K : PySem.W.Frag} {m : Fm} {W : WX} : OpD K m W (isN true) (fun x y H Q => y = .non ∧ Q (.bl (!decide (x = .non))) H) := by
  intro F ρ σ H a b x y Q r ha hb h
  obtain ⟨d, hd, h9⟩ := Aft.lift h
  clear h
  cases b <;> simp only [isN, reduceCtorEq] at hd
  cases hd
  refine ⟨hb, ?_⟩
  rw [rep_non ha]
  refine h9 F H r (Same.refl _) _ ?_
  cases a <;> rfl

/-! ### x[i] -/
def ixD : D → D → Option D
  | .tup ds, .int i => atI ds i
  | .lst ds, .int i => atI ds i
  | .scr ns, .int i => (atI ns i).map .int
  | _, _ => none
theorem reps_atI {K : PySem.W.Frag} {F : Hp} {ds : List D} {xs : List V} {i : Int} {d : D} (h : Reps K F ds xs) (e : atI ds i = some d) : ∃ x, atI xs i = some x ∧ Rep K F d x := by
  unfold atI at *
  rw [h.len]
  cases q : ixN ds.length i with
  | none => rw [q] at e; cases e
  | some j =>
    rw [q] at e
    exact h.at e
theorem atI_map {α β : Type} (f : α → β) (xs : List α) (i : Int) : atI (xs.map f) i = (atI xs i).map f := by
  unfold atI
  rw [List.length_map]
  cases ixN xs.length i with
  | none => rfl
  | some j => simp
abbrev rIxA (K : PySem.W.Frag) : R2 := fun x y H Q => rIxL K x y H Q ∨ rIxT K x y H Q
theorem or_ix {X : Cx} : IxR X (rIxA X.K) := IxR.or ix_list ix_tup
theorem od_ix {K : PySem.W.Frag} {m : Fm} {W : WX} : OpD K m W ixD (rIxA K) := by
  intro F ρ σ H a b x y Q r ha hb h
  obtain ⟨d, hd, h9⟩ := Aft.lift h
  clear h
  cases a <;> cases b <;> simp only [ixD, reduceCtorEq] at hd
  case tup.int ds i =>
    obtain ⟨p, vs, rfl, h1, h2⟩ := r.tupOf ha
    obtain ⟨w, e, q⟩ := reps_atI h2 hd
    exact .inr ⟨p, vs, i, w, rfl, hb, h1, e, h9 F H r (Same.refl _) _ q⟩
  case lst.int ds i =>
    obtain ⟨p, vs, rfl, h1, h2⟩ := r.lstOf ha
    obtain ⟨w, e, q⟩ := reps_atI h2 hd
    exact .inl ⟨p, vs, i, w, rfl, hb, SqL.of h1, e, h9 F H r (Same.refl _) _ q⟩
  case scr.int ns i =>
    obtain ⟨p, rfl, h1⟩ := ha
    cases e : atI ns i with
    | none => rw [e] at hd; cases hd
    | some n =>
      rw [e] at hd
      cases hd
      exact .inl ⟨p, _, i, .int n, rfl, hb, r.sub.seq h1, by rw [atI_map, e]; rfl, h9 F H r (Same.refl _) _ rfl⟩
section
variable {X : Cx} {m : Fm} {W : WX}
theorem d_ix {a b : Expr} {ga gb : Rho → Out D} {pos : Pos} (ha : DE X m W a ga) (hb : DE X m W b gb) (hs : PlainIx b := by exact fun _ _ => rfl) : DE X m W (.Subscript a b pos) (eBin ixD ga gb) :=
  PE.imp (pe_ix or_ix ha hb hs) fun σ H Q h => bin_of od_ix h
end
end Lt

/-! # Arguments, built-in calls, displays, slices, tests, small statements -/
namespace Lt
open PySem PySem.Spec L2

/-! ### arguments -/
def aNil : Rho → Out (List D) := fun ρ => .ok [] ρ
def aCons (g : Rho → Out D) (gs : Rho → Out (List D)) : Rho → Out (List D) := fun ρ => (g ρ).bind fun d ρ1 => (gs ρ1).bind fun ds ρ2 => .ok (d :: ds) ρ2
section
variable {X : Cx} {m : Fm} {W : WX} {K : PySem.W.Frag}
theorem nil_of {σ : St} {H : Hp} {Q : List V → Hp → Prop} (h : tL K m W aNil σ H Q) : tNil σ H Q := by
  obtain ⟨F, ρ, r, a⟩ := h
  exact a F H r (Same.refl _) [] rfl
theorem cons_of {t : TE} {ts : TA} {g : Rho → Out D} {gs : Rho → Out (List D)} (h1 : ∀ σ H Q, tD K m W g σ H Q → t σ H Q) (h2 : ∀ σ H Q, tL K m W gs σ H Q → ts σ H Q) {σ : St} {H : Hp} {Q : List V → Hp → Prop} (h : tL K m W (aCons g gs) σ H Q) : tCons t ts σ H Q := by
  obtain ⟨F, ρ, r, a⟩ := h
  refine h1 _ _ _ ⟨F, ρ, r, (Aft.bind a).imp fun d ρ1 F1 H1 r1 s1 a1 v rv => ?_⟩
  refine h2 _ _ _ ⟨F1, ρ1, r1, (Aft.bind a1).imp fun ds ρ2 F2 H2 r2 s2 a2 vs rvs => ?_⟩
  exact a2 F2 H2 r2 (Same.refl _) _ ⟨v, vs, rfl, Rep.mono s2 _ _ rv, rvs⟩
theorem l_nil : DL X m W [] aNil := PA.imp pa_nil fun _ _ _ => nil_of
theorem l_cons {e : Expr} {es : List Expr} {g : Rho → Out D} {gs : Rho → Out (List D)} (ha : DE X m W e g) (hr : DL X m W es gs) (hs : starEach (e :: es) X.env = (false, eval e X.env) :: starEach es X.env := by rfl) : DL X m W (e :: es) (aCons g gs) :=
  PA.imp (pa_cons ha hr hs) fun _ _ _ => cons_of (fun _ _ _ => id) (fun _ _ _ => id)

/-! ### displays -/
def eTup (gs : Rho → Out (List D)) : Rho → Out D := fun ρ => (gs ρ).bind fun ds ρ1 => lift (if ds.length ≤ sizeLine then some (D.tup ds) else none) ρ1
def eLst (gs : Rho → Out (List D)) : Rho → Out D := fun ρ => (gs ρ).bind fun ds ρ1 => lift (if ds.length ≤ sizeLine then some (D.lst ds) else none) ρ1
theorem d_tup {es : List Expr} {x1} {gs : Rho → Out (List D)} {pos : Pos} (h : DL X m W es gs) : DE X m W (.Tuple es x1 pos) (eTup gs) := by
  refine PE.imp (pe_tup h) fun σ H Q q => ?_
  obtain ⟨F, ρ, r, a⟩ := q
  refine ⟨F, ρ, r, (Aft.bind a).imp fun ds ρ1 F1 H1 r1 s1 a1 vs rvs => ?_⟩
  obtain ⟨d, e, q⟩ := Aft.lift a1
  split at e <;> cases e
  rename_i hz
  exact ⟨by rw [rvs.len]; exact hz, fun p np => new_tup r1 q rvs np⟩
theorem d_lst {es : List Expr} {gs : Rho → Out (List D)} {pos : Pos} (h : DL X m W es gs) : DE X m W (.List es pos) (eLst gs) := by
  refine PE.imp (pe_lst h) fun σ H Q q => ?_
  obtain ⟨F, ρ, r, a⟩ := q
  refine ⟨F, ρ, r, (Aft.bind a).imp fun ds ρ1 F1 H1 r1 s1 a1 vs rvs => ?_⟩
  obtain ⟨d, e, q⟩ := Aft.lift a1
  split at e <;> cases e
  rename_i hz
  exact ⟨by rw [rvs.len]; exact hz, fun p np => new_lst r1 q rvs np⟩

/-! ### calls of built-ins -/
def CallD (K : PySem.W.Frag) (m : Fm) (W : WX) (f : List D → Option D) (r : List V → Hp → VK → Prop) : Prop :=
  ∀ (F : Hp) (ρ : Rho) (σ : St) (H : Hp) (as : List D) (xs : List V) (Q : VK), Rel K m F ρ σ H → Reps K F as xs → Aft K m W F σ (lift (f as) ρ) (fun d _ F' H' => ∀ v, Rep K F' d v → Q v H') → r xs H Q
def eCall (f : List D → Option D) (gs : Rho → Out (List D)) : Rho → Out D := fun ρ => (gs ρ).bind fun ds ρ1 => lift (f ds) ρ1
theorem call_of {f : List D → Option D} {gs : Rho → Out (List D)} {r : List V → Hp → VK → Prop} (hd : CallD K m W f r) {σ : St} {H : Hp} {Q : VK} (h : tD K m W (eCall f gs) σ H Q) : tCB r (tL K m W gs) σ H Q := by
  obtain ⟨F, ρ, rl, a⟩ := h
  exact ⟨F, ρ, rl, (Aft.bind a).imp fun ds ρ1 F1 H1 r1 s1 a1 vs rvs => hd F1 ρ1 σ H1 ds vs Q r1 rvs a1⟩
theorem d_callB {id : String} {r : List V → Hp → VK → Prop} {f : List D → Option D} {x : Str} {e : Expr} {es : List Expr} {gs : Rho → Out (List D)} {p pos : Pos} (hc : CallR X (.builtin id) r) (hd : CallD X.K m W f r) (hg : Gl X x) (hm : X.mg x = none) (hv : bootBuiltins x = some (.builtin id))
    (ha : DL X m W (e :: es) gs) (hn : x ≠ "__name__" := by decide) (hdb : (x == ("__debug__" : Str)) = false := by decide)
    (he : starEach (e :: es) X.env = (false, eval e X.env) :: starEach es X.env := by rfl) (hpl : (backTo pos (starEach es X.env)).any (·.1) = false := by rfl) : DE X m W (.Call (.Name x p) (e :: es) [] pos) (eCall f gs) :=
  PE.imp (pe_callB hc hg hm hv ha hn hdb he hpl) fun _ _ _ h => call_of hd h
theorem d_callTy {T : String} {r : List V → Hp → VK → Prop} {f : List D → Option D} {x : Str} {e : Expr} {es : List Expr} {gs : Rho → Out (List D)} {p pos : Pos} (hc : CallR X (.type T) r) (hd : CallD X.K m W f r) (hg : Gl X x) (hm : X.mg x = none) (hv : bootBuiltins x = some (.type T))
    (ha : DL X m W (e :: es) gs) (hn : x ≠ "__name__" := by decide) (hdb : (x == ("__debug__" : Str)) = false := by decide)
    (he : starEach (e :: es) X.env = (false, eval e X.env) :: starEach es X.env := by rfl) (hpl : (backTo pos (starEach es X.env)).any (·.1) = false := by rfl) : DE X m W (.Call (.Name x p) (e :: es) [] pos) (eCall f gs) :=
  PE.imp (pe_callTy hc hg hm hv ha hn hdb he hpl) fun _ _ _ h => call_of hd h
theorem CallR.or' {f : Value} {r r' : List V → Hp → VK → Prop} (h : CallR X f r) (h' : CallR X f r') : CallR X f (fun xs H Q => r xs H Q ∨ r' xs H Q) := by
  intro pins s σ H xs us Q I rx q
  rcases q with q | q
  · exact h pins s σ H xs us Q I rx q
  · exact h' pins s σ H xs us Q I rx q
end

theorem Reps.one' {K : PySem.W.Frag} {F : Hp} {d : D} {xs : List V} (h : Reps K F [d] xs) : ∃ x, xs = [x] ∧ Rep K F d x := by
  obtain ⟨x, r, e, h1, h2⟩ := h
  cases (show r = [] from h2)
  exact ⟨x, e, h1⟩
theorem Reps.two' {K : PySem.W.Frag} {F : Hp} {d d2 : D} {xs : List V} (h : Reps K F [d, d2] xs) : ∃ x y, xs = [x, y] ∧ Rep K F d x ∧ Rep K F d2 y := by
  obtain ⟨x, r, e, h1, h2⟩ := h
  obtain ⟨y, e2, h3⟩ := h2.one'
  subst e2
  exact ⟨x, y, e, h1, h3⟩

def absD : List D → Option D
  | [.int i] => some (.int (if i < 0 then -i else i))
  | _ => none
def lenD : List D → Option D
  | [.tup ds] => some (.int ds.length)
  | [.lst ds] => some (.int ds.length)
  | [.scr ns] => some (.int ns.length)
  | _ => none
def intD : List D → Option D
  | [.int i] => some (.int i)
  | [.bl b] => some (.int (if b then 1 else 0))
  | _ => none
def max2D : List D → Option D
  | [.int i, .int j] => some (.int (if j > i then j else i))
  | _ => none
def min2D : List D → Option D
  | [.int i, .int j] => some (.int (if j < i then j else i))
  | _ => none
def listD : List D → Option D
  | [.tup ds] => some (.lst ds)
  | [.lst ds] => some (.lst ds)
  | _ => none
def tupleD : List D → Option D
  | [.tup ds] => some (.tup ds)
  | [.lst ds] => some (.tup ds)
  | _ => none
/-- a list of ints -/
def asInts : List D → Option (List Int)
  | [] => some []
  | .int i :: r => (asInts r).map (i :: ·)
  | _ => none
def asBls : List D → Option (List Bool)
  | [] => some []
  | .bl i :: r => (asBls r).map (i :: ·)
  | _ => none
theorem asInts_map : ∀ ns : List Int, asInts (ns.map D.int) = some ns
  | [] => rfl
  | n :: ns => by rw [List.map_cons, asInts, asInts_map ns]; rfl
theorem asBls_map : ∀ ns : List Bool, asBls (ns.map D.bl) = some ns
  | [] => rfl
  | n :: ns => by rw [List.map_cons, asBls, asBls_map ns]; rfl
theorem asInts_is : ∀ {ds : List D} {ns : List Int}, asInts ds = some ns → ds = ns.map D.int
  | [], ns, h => by cases h; rfl
  | d :: r, ns, h => by
    cases d <;> simp only [asInts, reduceCtorEq] at h
    obtain ⟨ms, h1, h2⟩ := Option.map_eq_some_iff.mp h
    subst h2
    rw [asInts_is h1]
    rfl
theorem asBls_is : ∀ {ds : List D} {ns : List Bool}, asBls ds = some ns → ds = ns.map D.bl
  | [], ns, h => by cases h; rfl
  | d :: r, ns, h => by
    cases d <;> simp only [asBls, reduceCtorEq] at h
    obtain ⟨ms, h1, h2⟩ := Option.map_eq_some_iff.mp h
    subst h2
    rw [asBls_is h1]
    rfl
def sumD : List D → Option D
  | [.lst ds] => (asInts ds).map fun ns => .int ns.sum
  | _ => none
def maxOf : List Int → Int
  | [] => 0
  | [n] => n
  | n :: r => max n (maxOf r)
def minOf : List Int → Int
  | [] => 0
  | [n] => n
  | n :: r => min n (minOf r)
def maxD : List D → Option D
  | [.lst (d :: ds)] => (asInts (d :: ds)).map fun ns => .int (maxOf ns)
  | _ => none
def minD : List D → Option D
  | [.lst (d :: ds)] => (asInts (d :: ds)).map fun ns => .int (minOf ns)
  | _ => none
def allD : List D → Option D
  | [.lst ds] => (asBls ds).map fun bs => .bl (bs.all id)
  | _ => none
def anyD : List D → Option D
  | [.lst ds] => (asBls ds).map fun bs => .bl (bs.any id)
  | _ => none
theorem maxOf_spec : ∀ (ns : List Int), ns ≠ [] → maxOf ns ∈ ns ∧ ∀ y ∈ ns, y ≤ maxOf ns
  | [], h => absurd rfl h
  | [n], _ => by simp [maxOf]
  | n :: m :: r, _ => by
    obtain ⟨h1, h2⟩ := maxOf_spec (m :: r) (by simp)
    show max n (maxOf (m :: r)) ∈ _ ∧ ∀ y ∈ _, y ≤ max n (maxOf (m :: r))
    refine ⟨?_, fun y hy => ?_⟩
    · rcases Int.le_total n (maxOf (m :: r)) with q | q
      · rw [Int.max_eq_right q]; exact List.mem_cons_of_mem _ h1
      · rw [Int.max_eq_left q]; exact List.mem_cons_self
    · rcases List.mem_cons.mp hy with e | hy
      · omega
      · have := h2 y hy; omega
theorem minOf_spec : ∀ (ns : List Int), ns ≠ [] → minOf ns ∈ ns ∧ ∀ y ∈ ns, minOf ns ≤ y
  | [], h => absurd rfl h
  | [n], _ => by simp [minOf]
  | n :: m :: r, _ => by
    obtain ⟨h1, h2⟩ := minOf_spec (m :: r) (by simp)
    show min n (minOf (m :: r)) ∈ _ ∧ ∀ y ∈ _, min n (minOf (m :: r)) ≤ y
    refine ⟨?_, fun y hy => ?_⟩
    · rcases Int.le_total n (minOf (m :: r)) with q | q
      · rw [Int.min_eq_left q]; exact List.mem_cons_self
      · rw [Int.min_eq_right q]; exact List.mem_cons_of_mem _ h1
    · rcases List.mem_cons.mp hy with e | hy
      · omega
      · have := h2 y hy; omega
section
variable {K : PySem.W.Frag} {m : Fm} {W : WX}
theorem cd_abs : CallD K m W absD (fun xs H Q => ∃ i, xs = [.int i] ∧ Q (.int (if i < 0 then -i else i)) H) := by
  intro F ρ σ H as xs Q r ha h
  obtain ⟨d, hd, h9⟩ := Aft.lift h
  clear h
  unfold absD at hd
  split at hd <;> cases hd
  obtain ⟨x, rfl, q⟩ := ha.one'
  exact ⟨_, by rw [show x = _ from q], h9 F H r (Same.refl _) _ rfl⟩
theorem cd_len : CallD K m W lenD (fun xs H Q => ∃ x n, xs = [x] ∧ LenV K x H n ∧ Q (.int n) H) := by
  intro F ρ σ H as xs Q r ha h
  obtain ⟨d, hd, h9⟩ := Aft.lift h
  clear h
  unfold lenD at hd
  split at hd <;> cases hd
  · obtain ⟨x, rfl, q⟩ := ha.one'
    obtain ⟨p, vs, rfl, h1, h2⟩ := r.tupOf q
    exact ⟨_, _, rfl, .inr ⟨vs, h1, rfl⟩, by rw [h2.len]; exact h9 F H r (Same.refl _) _ rfl⟩
  · obtain ⟨x, rfl, q⟩ := ha.one'
    obtain ⟨p, vs, rfl, h1, h2⟩ := r.lstOf q
    exact ⟨_, _, rfl, .inl ⟨vs, SqL.of h1, rfl⟩, by rw [h2.len]; exact h9 F H r (Same.refl _) _ rfl⟩
  · obtain ⟨x, rfl, p, rfl, h1⟩ := ha.one'
    exact ⟨_, _, rfl, .inl ⟨_, r.sub.seq h1, rfl⟩, by rw [List.length_map]; exact h9 F H r (Same.refl _) _ rfl⟩
theorem cd_int : CallD K m W intD (fun xs H Q => (∃ i, xs = [.int i] ∧ Q (.int i) H) ∨ ∃ k, xs = [.bl k] ∧ Q (.int (if k then 1 else 0)) H) := by
  intro F ρ σ H as xs Q r ha h
  obtain ⟨d, hd, h9⟩ := Aft.lift h
  clear h
  unfold intD at hd
  split at hd <;> cases hd
  · obtain ⟨x, rfl, q⟩ := ha.one'
    exact .inl ⟨_, by rw [show x = _ from q], h9 F H r (Same.refl _) _ rfl⟩
  · obtain ⟨x, rfl, q⟩ := ha.one'
    exact .inr ⟨_, by rw [show x = _ from q], h9 F H r (Same.refl _) _ rfl⟩
theorem cd_max2 : CallD K m W max2D (fun xs H Q => ∃ i j, xs = [.int i, .int j] ∧ Q (.int (if j > i then j else i)) H) := by
  intro F ρ σ H as xs Q r ha h
  obtain ⟨d, hd, h9⟩ := Aft.lift h
  clear h
  unfold max2D at hd
  split at hd <;> cases hd
  obtain ⟨x, y, rfl, q, q2⟩ := ha.two'
  exact ⟨_, _, by rw [show x = _ from q, show y = _ from q2], h9 F H r (Same.refl _) _ rfl⟩
theorem cd_min2 : CallD K m W min2D (fun xs H Q => ∃ i j, xs = [.int i, .int j] ∧ Q (.int (if j < i then j else i)) H) := by
  intro F ρ σ H as xs Q r ha h
  obtain ⟨d, hd, h9⟩ := Aft.lift h
  clear h
  unfold min2D at hd
  split at hd <;> cases hd
  obtain ⟨x, y, rfl, q, q2⟩ := ha.two'
  exact ⟨_, _, by rw [show x = _ from q, show y = _ from q2], h9 F H r (Same.refl _) _ rfl⟩
theorem cd_list : CallD K m W listD (fun xs H Q => ∃ p ys, xs = [.ref p] ∧ (SqL K H p ys ∨ SqT K H p ys) ∧ ∀ l, H l = none → Q (.ref l) (upd H l (.lst ys))) := by
  intro F ρ σ H as xs Q r ha h
  obtain ⟨d, hd, h9⟩ := Aft.lift h
  clear h
  unfold listD at hd
  split at hd <;> cases hd
  · obtain ⟨x, rfl, q⟩ := ha.one'
    obtain ⟨p, vs, rfl, h1, h2⟩ := r.tupOf q
    exact ⟨_, _, rfl, .inr h1, fun l nl => new_lst r h9 h2 nl⟩
  · obtain ⟨x, rfl, q⟩ := ha.one'
    obtain ⟨p, vs, rfl, h1, h2⟩ := r.lstOf q
    exact ⟨_, _, rfl, .inl (SqL.of h1), fun l nl => new_lst r h9 h2 nl⟩
theorem cd_tuple : CallD K m W tupleD (fun xs H Q => ∃ p ys, xs = [.ref p] ∧ ((SqL K H p ys ∧ ∀ l, H l = none → Q (.ref l) (upd H l (.tup ys))) ∨ (SqT K H p ys ∧ Q (.ref p) H))) := by
  intro F ρ σ H as xs Q r ha h
  obtain ⟨d, hd, h9⟩ := Aft.lift h
  clear h
  unfold tupleD at hd
  split at hd <;> cases hd
  · obtain ⟨x, rfl, q⟩ := ha.one'
    obtain ⟨p, vs, e, h1, h2⟩ := r.tupOf q
    subst e
    exact ⟨_, _, rfl, .inr ⟨h1, h9 F H r (Same.refl _) _ q⟩⟩
  · obtain ⟨x, rfl, q⟩ := ha.one'
    obtain ⟨p, vs, rfl, h1, h2⟩ := r.lstOf q
    exact ⟨_, _, rfl, .inl ⟨SqL.of h1, fun l nl => new_tup r h9 h2 nl⟩⟩
theorem cd_sum : CallD K m W sumD (rSum K) := by
  intro F ρ σ H as xs Q r ha h
  obtain ⟨d, hd, h9⟩ := Aft.lift h
  clear h
  unfold sumD at hd
  split at hd <;> try cases hd
  obtain ⟨ns, e, rfl⟩ := Option.map_eq_some_iff.mp hd
  obtain ⟨x, rfl, q⟩ := ha.one'
  obtain ⟨p, vs, rfl, h1, h2⟩ := r.lstOf q
  have e1 := asInts_is e
  subst e1
  have e2 := h2.ints
  subst e2
  exact ⟨p, ns, rfl, SqL.of h1, h9 F H r (Same.refl _) _ rfl⟩
theorem cd_max : CallD K m W maxD (rMax K) := by
  intro F ρ σ H as xs Q r ha h
  obtain ⟨d, hd, h9⟩ := Aft.lift h
  clear h
  unfold maxD at hd
  split at hd <;> try cases hd
  obtain ⟨ns, e, rfl⟩ := Option.map_eq_some_iff.mp hd
  obtain ⟨x, rfl, q⟩ := ha.one'
  obtain ⟨p, vs, rfl, h1, h2⟩ := r.lstOf q
  have e1 := asInts_is e
  have hne : ns ≠ [] := fun z => by subst z; cases e1
  rw [e1] at h2
  have e2 := h2.ints
  subst e2
  refine ⟨p, ns, rfl, SqL.of h1, List.length_pos_iff.mpr hne, fun w hw hle => ?_⟩
  obtain ⟨s1, s2⟩ := maxOf_spec ns hne
  rw [Int.le_antisymm (s2 w hw) (hle _ s1)]
  exact h9 F H r (Same.refl _) _ rfl
theorem cd_min : CallD K m W minD (rMin K) := by
  intro F ρ σ H as xs Q r ha h
  obtain ⟨d, hd, h9⟩ := Aft.lift h
  clear h
  unfold minD at hd
  split at hd <;> try cases hd
  obtain ⟨ns, e, rfl⟩ := Option.map_eq_some_iff.mp hd
  obtain ⟨x, rfl, q⟩ := ha.one'
  obtain ⟨p, vs, rfl, h1, h2⟩ := r.lstOf q
  have e1 := asInts_is e
  have hne : ns ≠ [] := fun z => by subst z; cases e1
  rw [e1] at h2
  have e2 := h2.ints
  subst e2
  refine ⟨p, ns, rfl, SqL.of h1, List.length_pos_iff.mpr hne, fun w hw hle => ?_⟩
  obtain ⟨s1, s2⟩ := minOf_spec ns hne
  rw [Int.le_antisymm (hle _ s1) (s2 w hw)]
  exact h9 F H r (Same.refl _) _ rfl
theorem cd_all : CallD K m W allD (rAll K) := by
  intro F ρ σ H as xs Q r ha h
  obtain ⟨d, hd, h9⟩ := Aft.lift h
  clear h
  unfold allD at hd
  split at hd <;> try cases hd
  obtain ⟨ns, e, rfl⟩ := Option.map_eq_some_iff.mp hd
  obtain ⟨x, rfl, q⟩ := ha.one'
  obtain ⟨p, vs, rfl, h1, h2⟩ := r.lstOf q
  have e1 := asBls_is e
  subst e1
  have e2 := h2.bls
  subst e2
  exact ⟨p, ns, rfl, SqL.of h1, h9 F H r (Same.refl _) _ rfl⟩
theorem cd_any : CallD K m W anyD (rAny K) := by
  intro F ρ σ H as xs Q r ha h
  obtain ⟨d, hd, h9⟩ := Aft.lift h
  clear h
  unfold anyD at hd
  split at hd <;> try cases hd
  obtain ⟨ns, e, rfl⟩ := Option.map_eq_some_iff.mp hd
  obtain ⟨x, rfl, q⟩ := ha.one'
  obtain ⟨p, vs, rfl, h1, h2⟩ := r.lstOf q
  have e1 := asBls_is e
  subst e1
  have e2 := h2.bls
  subst e2
  exact ⟨p, ns, rfl, SqL.of h1, h9 F H r (Same.refl _) _ rfl⟩
end

/-! ### unary minus, and, or, not, a if t else b, chains -/
def negD : D → Option D
  | .int i => some (.int (-i))
  | _ => none
def eUn (f : D → Option D) (g : Rho → Out D) : Rho → Out D := fun ρ => (g ρ).bind fun d ρ1 => lift (f d) ρ1
def bAnd (g h : Rho → Out Bool) : Rho → Out Bool := fun ρ => (g ρ).bind fun b ρ1 => if b = true then h ρ1 else .ok false ρ1
def bOr (g h : Rho → Out Bool) : Rho → Out Bool := fun ρ => (g ρ).bind fun b ρ1 => if b = true then .ok true ρ1 else h ρ1
def bNot (g : Rho → Out Bool) : Rho → Out Bool := fun ρ => (g ρ).bind fun b ρ1 => .ok (!b) ρ1
def eAnd (g h : Rho → Out D) : Rho → Out D := fun ρ => (g ρ).bind fun d ρ1 => match d with
  | .bl b => if b = true then h ρ1 else .ok (.bl false) ρ1
  | _ => .stuck
def eOr (g h : Rho → Out D) : Rho → Out D := fun ρ => (g ρ).bind fun d ρ1 => match d with
  | .bl b => if b = true then .ok (.bl true) ρ1 else h ρ1
  | _ => .stuck
def eNot (g : Rho → Out D) : Rho → Out D := fun ρ => (g ρ).bind fun d ρ1 => match d with
  | .bl b => .ok (.bl (!b)) ρ1
  | _ => .stuck
def eIf (t : Rho → Out Bool) (g h : Rho → Out D) : Rho → Out D := fun ρ => (t ρ).bind fun b ρ1 => if b = true then g ρ1 else h ρ1
/-- a < b < c -/
def eChain (f f' : D → D → Option D) (ga gb gc : Rho → Out D) : Rho → Out D := fun ρ => (ga ρ).bind fun a ρ1 => (gb ρ1).bind fun b ρ2 => (lift (f a b) ρ2).bind fun z ρ3 => match z with
  | .bl k => if k = true then (gc ρ3).bind fun c ρ4 => lift (f' b c) ρ4 else .ok (.bl false) ρ3
  | _ => .stuck
section
variable {X : Cx} {m : Fm} {W : WX} {K : PySem.W.Frag} {a b c : Expr} {pos : Pos}
theorem d_neg {g : Rho → Out D} (ha : DE X m W a g) : DE X m W (.UnaryOp .USub a pos) (eUn negD g) := by
  refine PE.imp (pe_un un_neg ha) fun σ H Q q => ?_
  obtain ⟨F, ρ, r, a⟩ := q
  refine ⟨F, ρ, r, (Aft.bind a).imp fun d ρ1 F1 H1 r1 s1 a1 v rv => ?_⟩
  obtain ⟨d, e, q⟩ := Aft.lift a1
  unfold negD at e
  split at e <;> cases e
  exact ⟨_, rv, q F1 H1 r1 (Same.refl _) _ rfl⟩
theorem w_and1 {t : Rho → Out Bool} (ha : DT X m W a t) : DW X m W (.BoolOp .And [a] pos) t := pw_and1 ha
theorem w_or1 {t : Rho → Out Bool} (ha : DT X m W a t) : DW X m W (.BoolOp .Or [a] pos) t := pw_or1 ha
theorem w_and {t u : Rho → Out Bool} {rest : List Expr} (ha : DT X m W a t) (hb : DW X m W (.BoolOp .And (b :: rest) pos) u) : DW X m W (.BoolOp .And (a :: b :: rest) pos) (bAnd t u) := by
  refine PW.imp (pw_and ha hb) fun σ H Q q => ?_
  obtain ⟨F, ρ, r, a⟩ := q
  refine ⟨F, ρ, r, (Aft.bind a).imp fun k ρ1 F1 H1 r1 s1 a1 => ?_⟩
  cases k with
  | true => exact ⟨F1, ρ1, r1, a1⟩
  | false => exact a1 F1 H1 r1 (Same.refl _)
theorem w_or {t u : Rho → Out Bool} {rest : List Expr} (ha : DT X m W a t) (hb : DW X m W (.BoolOp .Or (b :: rest) pos) u) : DW X m W (.BoolOp .Or (a :: b :: rest) pos) (bOr t u) := by
  refine PW.imp (pw_or ha hb) fun σ H Q q => ?_
  obtain ⟨F, ρ, r, a⟩ := q
  refine ⟨F, ρ, r, (Aft.bind a).imp fun k ρ1 F1 H1 r1 s1 a1 => ?_⟩
  cases k with
  | false => exact ⟨F1, ρ1, r1, a1⟩
  | true => exact a1 F1 H1 r1 (Same.refl _)
theorem t_bool {t : Rho → Out Bool} (h : DW X m W a t) : DT X m W a t := h.pt
theorem t_not {t : Rho → Out Bool} (ha : DT X m W a t) : DT X m W (.UnaryOp .Not a pos) (bNot t) := by
  refine PT.imp (pt_not ha) fun σ H Q q => ?_
  obtain ⟨F, ρ, r, a⟩ := q
  refine ⟨F, ρ, r, (Aft.bind a).imp fun k ρ1 F1 H1 r1 s1 a1 => ?_⟩
  exact a1 F1 H1 r1 (Same.refl _)
theorem d_one {op} {g : Rho → Out D} (h : DE X m W a g) : DE X m W (.BoolOp op [a] pos) g := pe_one h
theorem d_and {g h : Rho → Out D} {rest : List Expr} (ha : DE X m W a g) (hb : DE X m W (.BoolOp .And (b :: rest) pos) h) : DE X m W (.BoolOp .And (a :: b :: rest) pos) (eAnd g h) := by
  refine PE.imp (pe_and ha hb) fun σ H Q q => ?_
  obtain ⟨F, ρ, r, a⟩ := q
  refine ⟨F, ρ, r, (Aft.bind a).imp fun d ρ1 F1 H1 r1 s1 a1 v rv => ?_⟩
  cases d <;> try exact a1.elim
  rename_i k
  refine ⟨k, rv, ?_⟩
  cases k with
  | true => exact ⟨F1, ρ1, r1, a1⟩
  | false => exact a1 F1 H1 r1 (Same.refl _) _ rfl
theorem d_or {g h : Rho → Out D} {rest : List Expr} (ha : DE X m W a g) (hb : DE X m W (.BoolOp .Or (b :: rest) pos) h) : DE X m W (.BoolOp .Or (a :: b :: rest) pos) (eOr g h) := by
  refine PE.imp (pe_or ha hb) fun σ H Q q => ?_
  obtain ⟨F, ρ, r, a⟩ := q
  refine ⟨F, ρ, r, (Aft.bind a).imp fun d ρ1 F1 H1 r1 s1 a1 v rv => ?_⟩
  cases d <;> try exact a1.elim
  rename_i k
  refine ⟨k, rv, ?_⟩
  cases k with
  | false => exact ⟨F1, ρ1, r1, a1⟩
  | true => exact a1 F1 H1 r1 (Same.refl _) _ rfl
theorem d_not {g : Rho → Out D} (ha : DE X m W a g) : DE X m W (.UnaryOp .Not a pos) (eNot g) := by
  refine PE.imp (pe_not ha) fun σ H Q q => ?_
  obtain ⟨F, ρ, r, a⟩ := q
  refine ⟨F, ρ, r, (Aft.bind a).imp fun d ρ1 F1 H1 r1 s1 a1 v rv => ?_⟩
  cases d <;> try exact a1.elim
  rename_i k
  exact ⟨k, rv, a1 F1 H1 r1 (Same.refl _) _ rfl⟩
theorem d_if {t : Rho → Out Bool} {g h : Rho → Out D} (hc : DT X m W c t) (ha : DE X m W a g) (hb : DE X m W b h) : DE X m W (.IfExp c a b pos) (eIf t g h) := by
  refine PE.imp (pe_ifExp hc ha hb) fun σ H Q q => ?_
  obtain ⟨F, ρ, r, a⟩ := q
  refine ⟨F, ρ, r, (Aft.bind a).imp fun k ρ1 F1 H1 r1 s1 a1 => ?_⟩
  cases k with
  | true => exact ⟨F1, ρ1, r1, a1⟩
  | false => exact ⟨F1, ρ1, r1, a1⟩
theorem d_chain {op op' : CmpOp} {r r' : R2} {f f' : D → D → Option D} {ga gb gc : Rho → Out D} (ho : OpR X (compareOp op) r) (hd : OpD X.K m W f r) (ho' : OpR X (compareOp op') r') (hd' : OpD X.K m W f' r') (ha : DE X m W a ga) (hb : DE X m W b gb) (hc : DE X m W c gc)
    (hm : lastMarks [op, op'] [b, c] = false := by with_unfolding_all rfl) : DE X m W (.Compare a [op, op'] [b, c] pos) (eChain f f' ga gb gc) := by
  refine PE.imp (pe_chain ho ho' ha hb hc hm) fun σ H Q q => ?_
  obtain ⟨F, ρ, rl, a⟩ := q
  refine ⟨F, ρ, rl, (Aft.bind a).imp fun d ρ1 F1 H1 r1 s1 a1 v rv => ?_⟩
  refine ⟨F1, ρ1, r1, (Aft.bind a1).imp fun e ρ2 F2 H2 r2 s2 a2 y ry => ?_⟩
  refine hd F2 ρ2 σ H2 d e v y _ r2 (Rep.mono s2 _ _ rv) ry ((Aft.bind a2).imp fun z ρ3 F3 H3 r3 s3 a3 w rw' => ?_)
  cases z <;> try exact a3.elim
  rename_i k
  refine ⟨k, rw', ?_⟩
  cases k with
  | false => exact a3 F3 H3 r3 (Same.refl _) _ rfl
  | true => exact ⟨F3, ρ3, r3, (Aft.bind a3).imp fun e' ρ4 F4 H4 r4 s4 a4 u ru => hd' F4 ρ4 σ H4 e e' y u Q r4 (Rep.mono (s3.trans s4) _ _ ry) ru a4⟩
end
end Lt

/-! # Slices, isinstance, statements, loops, comprehensions -/
namespace Lt
open PySem PySem.Spec L2

/-! ### slices -/
def cutD (xs : List D) (lo hi : Option Int) : List D := (xs.drop (HT.sIx xs.length 0 lo)).take (HT.sIx xs.length xs.length hi - HT.sIx xs.length 0 lo)
def toPart (d : D) : Option (Option Int) := match d with
  | .int i => some (some i)
  | _ => none
abbrev DO (X : Cx) (m : Fm) (W : WX) (e : Option Expr) (g : Rho → Out (Option Int)) : Prop := PO X e (fun σ H Q => tX X.K m W g (fun o _ _ H' => Q o H') σ H)
theorem PO.imp {X : Cx} {e : Option Expr} {t t' : TO} (h : PO X e t) (i : ∀ σ H Q, t' σ H Q → t σ H Q) : PO X e t' := ⟨fun pins s σ H Q I q => h.run pins s σ H Q I (i σ H Q q)⟩
def oNone : Rho → Out (Option Int) := fun ρ => .ok none ρ
def oSome (g : Rho → Out D) : Rho → Out (Option Int) := fun ρ => (g ρ).bind fun d ρ1 => lift (toPart d) ρ1
def sliceD (d : D) (lo hi : Option Int) : Option D := match d with
  | .tup ds => some (.tup (cutD ds lo hi))
  | .lst ds => some (.lst (cutD ds lo hi))
  | _ => none
def eSlice (g : Rho → Out D) (l h : Rho → Out (Option Int)) : Rho → Out D := fun ρ => (g ρ).bind fun d ρ1 => (l ρ1).bind fun lo ρ2 => (h ρ2).bind fun hi ρ3 => lift (sliceD d lo hi) ρ3
theorem reps_cut {K : PySem.W.Frag} {F : Hp} {ds : List D} {xs : List V} (h : Reps K F ds xs) (lo hi : Option Int) : Reps K F (cutD ds lo hi) (cutV xs lo hi) := by
  unfold cutD cutV
  rw [h.len]
  exact (h.drop _).take _
section
variable {X : Cx} {m : Fm} {W : WX}
theorem o_none : DO X m W none oNone := PO.imp po_none fun σ H Q h => by
  obtain ⟨F, ρ, r, a⟩ := h
  exact a F H r (Same.refl _)
theorem o_some {e : Expr} {g : Rho → Out D} (h : DE X m W e g) : DO X m W (some e) (oSome g) := PO.imp (po_some h) fun σ H Q q => by
  obtain ⟨F, ρ, r, a⟩ := q
  refine ⟨F, ρ, r, (Aft.bind a).imp fun d ρ1 F1 H1 r1 s1 a1 v rv => ?_⟩
  obtain ⟨o, e, q⟩ := Aft.lift a1
  cases d <;> simp only [toPart, reduceCtorEq] at e
  cases e
  exact ⟨_, rv, q F1 H1 r1 (Same.refl _)⟩
abbrev rSlAny (K : PySem.W.Frag) : V → Option Int → Option Int → Hp → VK → Prop := fun x lo hi H Q => rSlL K x lo hi H Q ∨ rSlA K x lo hi H Q
theorem d_slice {e : Expr} {lo hi : Option Expr} {p2 pos : Pos} {g : Rho → Out D} {l h : Rho → Out (Option Int)} (he : DE X m W e g) (hl : DO X m W lo l) (hh : DO X m W hi h) : DE X m W (.Subscript e (.Slice lo hi none p2) pos) (eSlice g l h) := by
  refine PE.imp (pe_slice (SlR.or sl_list sl_tupA) he hl hh) fun σ H Q q => ?_
  obtain ⟨F, ρ, r, a⟩ := q
  refine ⟨F, ρ, r, (Aft.bind a).imp fun d ρ1 F1 H1 r1 s1 a1 v rv => ?_⟩
  refine ⟨F1, ρ1, r1, (Aft.bind a1).imp fun o ρ2 F2 H2 r2 s2 a2 => ?_⟩
  refine ⟨F2, ρ2, r2, (Aft.bind a2).imp fun o' ρ3 F3 H3 r3 s3 a3 => ?_⟩
  obtain ⟨z, e, q⟩ := Aft.lift a3
  have rv3 := Rep.mono (s2.trans s3) _ _ rv
  cases d <;> simp only [sliceD, reduceCtorEq] at e
  case lst ds =>
    cases e
    obtain ⟨p, vs, rfl, h1, h2⟩ := r3.lstOf rv3
    exact .inl ⟨p, vs, rfl, SqL.of h1, fun l nl => new_lst r3 q (reps_cut h2 _ _) nl⟩
  case tup ds =>
    cases e
    obtain ⟨p, vs, rfl, h1, h2⟩ := r3.tupOf rv3
    refine .inr ⟨p, vs, rfl, h1, fun hw => ?_, fun _ l nl => new_tup r3 q (reps_cut h2 _ _) nl⟩
    have e2 : cutD ds o o' = ds := by
      unfold cutD
      rw [← h2.len, hw.1, hw.2, List.drop_zero, Nat.sub_zero, h2.len, List.take_length]
    rw [e2] at q
    exact q F3 H3 r3 (Same.refl _) _ rv3

/-! ### isinstance of a built-in type -/
def tyName : D → Option String
  | .non => some "NoneType"
  | .bl _ => some "bool"
  | .int _ => some "int"
  | .str _ => some "str"
  | .tup _ => some "tuple"
  | .lst _ => some "list"
  | .emp => some "dict"
  | _ => none
def isiD (T : String) (d : D) : Option D := match tyName d with
  | some n => (kitB n T).map .bl
  | none => none
theorem tyx_of {K : PySem.W.Frag} {F H : Hp} (s : Same F H) {d : D} {v : V} {n : String} (e : tyName d = some n) (h : Rep K F d v) : TyX K H v (.type n) := by
  cases d <;> simp only [tyName, reduceCtorEq] at e <;> cases e
  case non => cases (show v = _ from h); exact .base .non
  case bl b => cases (show v = _ from h); exact .base (.bl b)
  case int b => cases (show v = _ from h); exact .base (.int b)
  case str b => cases (show v = _ from h); exact .base (.str b)
  case tup ds =>
    obtain ⟨a, xs, e, q, _⟩ := h
    subst e
    rcases Same.seqT s q with (q | ⟨o, q⟩) | ⟨o, its, n, q, c, _⟩
    · exact .base (.tup q)
    · exact .fTuple q
    · exact .kTuple q c
  case lst ds =>
    obtain ⟨a, xs, e, q, _⟩ := h
    subst e
    exact .base (.lst (s _ _ q))
  case emp =>
    obtain ⟨a, e, q⟩ := h
    subst e
    exact .base (.dK (s _ _ q))
def eIsi (T : String) (g : Rho → Out D) : Rho → Out D := fun ρ => (g ρ).bind fun d ρ1 => lift (isiD T d) ρ1
theorem d_isi {a : Expr} {g : Rho → Out D} {T : Str} {T' : String} {p p2 pos : Pos} (hg : Gl X "isinstance") (hm : X.mg "isinstance" = none) (hg2 : Gl X T) (hm2 : X.mg T = none) (ht : bootBuiltins T = some (.type T')) (hn : T ≠ "__name__" := by decide) (hd : (T == ("__debug__" : Str)) = false := by decide)
    (ha : DE X m W a g) (hs : starEach [a, .Name T p2] X.env = (false, eval a X.env) :: starEach [.Name T p2] X.env := by rfl) (hs2 : starEach [.Name T p2] X.env = (false, eval (.Name T p2) X.env) :: starEach [] X.env := by rfl)
    (hpl : (backTo pos (starEach [.Name T p2] X.env)).any (·.1) = false := by rfl) : DE X m W (.Call (.Name "isinstance" p) [a, .Name T p2] [] pos) (eIsi T' g) := by
  refine PE.imp (pe_callB call_isi hg hm (by decide +kernel) (pa_cons ha (pa_cons (pe_bltn (v := .ty T') hg2 hm2 ht rfl hn hd) pa_nil hs2) hs) (by decide) (by decide) hs hpl) fun σ H Q q => ?_
  obtain ⟨F, ρ, r, a⟩ := q
  refine ⟨F, ρ, r, (Aft.bind a).imp fun d ρ1 F1 H1 r1 s1 a1 v rv => ?_⟩
  obtain ⟨z, e, q⟩ := Aft.lift a1
  unfold isiD at e
  cases e1 : tyName d with
  | none => rw [e1] at e; cases e
  | some n =>
    rw [e1] at e
    obtain ⟨b, e2, rfl⟩ := Option.map_eq_some_iff.mp e
    exact ⟨v, .ty T', _, _, b, rfl, .ty T', tyx_of r1.sub e1 rv, kit_ty e2, q F1 H1 r1 (Same.refl _) _ rfl⟩
end

/-! ### statements -/
/-- how a statement ends; what a return hands back: data, or an object of its own -/
inductive R where
  | val (d : D) | own (o : O)
inductive Fl where
  | nx (ρ : Rho) | rt (r : R) (ρ : Rho) | bk (ρ : Rho) | ct (ρ : Rho) | exc (C : Addr) (ns : List Str) (ds : List D) (ρ : Rho) | stuck
def Out.fl {α : Type} (r : Out α) (k : α → Rho → Fl) : Fl := match r with
  | .ok a ρ => k a ρ
  | .exc C ns ds ρ => .exc C ns ds ρ
  | .stuck => .stuck
@[simp] theorem fl_ok {α : Type} (a : α) (ρ : Rho) (k : α → Rho → Fl) : (Out.ok a ρ).fl k = k a ρ := (rfl)
@[simp] theorem fl_exc {α : Type} (C : Addr) (ns : List Str) (ds : List D) (ρ : Rho) (k : α → Rho → Fl) : (Out.exc C ns ds ρ : Out α).fl k = .exc C ns ds ρ := (rfl)
@[simp] theorem fl_stuck {α : Type} (k : α → Rho → Fl) : (Out.stuck : Out α).fl k = .stuck := (rfl)
/-- an object that no name holds -/
def OwnAt (K : PySem.W.Frag) (m : Fm) (F : Hp) (ρ : Rho) (σ : St) (H : Hp) (o : O) (v : V) : Prop :=
  ∃ a ho, v = .ref a ∧ H a = some ho ∧ RepO K F o ho ∧ F a = none ∧ m.He a = none ∧ ∀ (j : Nat) (b : Option Nat) (o' : O), ρ[j]? = some (.own b o') → σ[j]? = some (some (.ref a)) → False
def RepR (K : PySem.W.Frag) (m : Fm) (F H : Hp) : R → V → Prop
  | .val d, v => Rep K F d v
  | .own o, v => ∃ a ho, v = .ref a ∧ H a = some ho ∧ RepO K F o ho ∧ F a = none ∧ m.He a = none
section
variable (K : PySem.W.Frag) (m : Fm) (W : WX)
def AftF (F : Hp) (r : Fl) (Dn : Ends) (Rt : R → Rho → St → Hp → Hp → Prop) : Prop := match r with
  | .nx ρ' => ∀ F' σ' H', Rel K m F' ρ' σ' H' → Same F F' → Dn.nx σ' H'
  | .bk ρ' => ∀ F' σ' H', Rel K m F' ρ' σ' H' → Same F F' → Dn.bk σ' H'
  | .ct ρ' => ∀ F' σ' H', Rel K m F' ρ' σ' H' → Same F F' → Dn.ct σ' H'
  | .rt a ρ' => ∀ F' σ' H', Rel K m F' ρ' σ' H' → Same F F' → Rt a ρ' σ' F' H'
  | .exc C ns ds ρ' => ∀ F' σ' H' dd, Rel K m F' ρ' σ' H' → Same F F' → ExcAt K m.He F' H' ns ds dd → W (.ref C) dd σ' H'
  | .stuck => False
def tS (g : Rho → Fl) : TS := fun Dn σ H => ∃ F ρ, Rel K m F ρ σ H ∧ AftF K m W F (g ρ) Dn (fun a _ _ F' H' => ∀ v, RepR K m F' H' a v → Dn.rt v H')
end
abbrev DS (X : Cx) (m : Fm) (W : WX) (s : Stmt) (g : Rho → Fl) : Prop := PS X s (tS X.K m W g)
abbrev DB (X : Cx) (m : Fm) (W : WX) (s : List Stmt) (g : Rho → Fl) : Prop := PSs X s (tS X.K m W g)

section
variable {K : PySem.W.Frag} {m : Fm} {W : WX} {F F' H : Hp} {σ : St} {ρ : Rho}
theorem AftF.weak {r : Fl} {Dn : Ends} {Rt : R → Rho → St → Hp → Hp → Prop} (h : AftF K m W F r Dn Rt) (e : Same F F') : AftF K m W F' r Dn Rt := by
  cases r with
  | nx ρ' => exact fun F2 σ2 H2 r s => h F2 σ2 H2 r (e.trans s)
  | bk ρ' => exact fun F2 σ2 H2 r s => h F2 σ2 H2 r (e.trans s)
  | ct ρ' => exact fun F2 σ2 H2 r s => h F2 σ2 H2 r (e.trans s)
  | rt a ρ' => exact fun F2 σ2 H2 r s => h F2 σ2 H2 r (e.trans s)
  | exc C ns ds ρ' => exact fun F2 σ2 H2 dd r s => h F2 σ2 H2 dd r (e.trans s)
  | stuck => exact h
/-- an expression inside a statement: its errors leave the statement -/
theorem Aft.fl {α : Type} {r : Out α} {k : α → Rho → Fl} {Dn : Ends} {Rt : R → Rho → St → Hp → Hp → Prop} (h : AftF K m W F (r.fl k) Dn Rt) :
    Aft K m W F σ r (fun a ρ' F' _ => AftF K m W F' (k a ρ') Dn Rt) := by
  cases r with
  | ok a ρ' => exact fun F2 H2 _ s => (show AftF K m W F (k a ρ') Dn Rt from h).weak s
  | exc C ns ds ρ' => exact fun F2 H2 dd r2 s x => h F2 σ H2 dd r2 s x
  | stuck => exact h
end

def sSeq (f g : Rho → Fl) : Rho → Fl := fun ρ => match f ρ with
  | .nx ρ' => g ρ'
  | r => r
def sNext : Rho → Fl := fun ρ => .nx ρ
def sNever : Rho → Fl := fun _ => .stuck
def sSet (i : Nat) (g : Rho → Out D) : Rho → Fl := fun ρ => (g ρ).fl fun d ρ1 => .nx (ρ1.set i (.val d))
def sPar (i j : Nat) (gs : Rho → Out (List D)) : Rho → Fl := fun ρ => (gs ρ).fl fun ds ρ1 => match ds with
  | [d, e] => .nx ((ρ1.set i (.val d)).set j (.val e))
  | _ => .stuck
def sRet (g : Rho → Out D) : Rho → Fl := fun ρ => (g ρ).fl fun d ρ1 => .rt (.val d) ρ1
def sRetN : Rho → Fl := fun ρ => .rt (.val .non) ρ
def sExpr (g : Rho → Out D) : Rho → Fl := fun ρ => (g ρ).fl fun _ ρ1 => .nx ρ1
def sIf (t : Rho → Out Bool) (f g : Rho → Fl) : Rho → Fl := fun ρ => (t ρ).fl fun b ρ1 => if b = true then f ρ1 else g ρ1
def sBreak : Rho → Fl := fun ρ => .bk ρ
section
variable {X : Cx} {m : Fm} {W : WX} {K : PySem.W.Frag}
theorem b_nil : DB X m W [] sNext := PSs.imp pss_nil fun Dn σ H h => by
  obtain ⟨F, ρ, r, a⟩ := h
  exact a F σ H r (Same.refl _)
theorem seq_of {f g : Rho → Fl} {Dn : Ends} {σ : St} {H : Hp} (h : tS K m W (sSeq f g) Dn σ H) : tSeq (tS K m W f) (tS K m W g) Dn σ H := by
  obtain ⟨F, ρ, r, a⟩ := h
  refine ⟨F, ρ, r, ?_⟩
  unfold sSeq at a
  cases e : f ρ with
  | nx ρ' =>
    rw [e] at a
    exact fun F' σ' H' r' s => ⟨F', ρ', r', AftF.weak (F := F) a s⟩
  | rt a1 ρ' => rw [e] at a; exact a
  | bk ρ' => rw [e] at a; exact a
  | ct ρ' => rw [e] at a; exact a
  | exc C ns ds ρ' => rw [e] at a; exact a
  | stuck => rw [e] at a; exact a
theorem b_cons {st : Stmt} {rest : List Stmt} {f g : Rho → Fl} (h1 : DS X m W st f) (h2 : DB X m W rest g) : DB X m W (st :: rest) (sSeq f g) := PSs.imp (pss_cons h1 h2) fun _ _ _ => seq_of
theorem b_one {st : Stmt} {f : Rho → Fl} (h1 : DS X m W st f) : DB X m W [st] f := pss_one h1
theorem s_never {st : Stmt} : DS X m W st sNever := PS.imp ps_never fun Dn σ H h => by
  obtain ⟨F, ρ, r, a⟩ := h
  exact a
theorem b_never {st : List Stmt} : DB X m W st sNever := PSs.imp pss_never fun Dn σ H h => by
  obtain ⟨F, ρ, r, a⟩ := h
  exact a
theorem s_pass {pos : Pos} : DS X m W (.Pass pos) sNext := PS.imp ps_pass fun Dn σ H h => by
  obtain ⟨F, ρ, r, a⟩ := h
  exact a F σ H r (Same.refl _)
theorem s_break {pos : Pos} : DS X m W (.Break pos) sBreak := PS.imp ps_break fun Dn σ H h => by
  obtain ⟨F, ρ, r, a⟩ := h
  exact a F σ H r (Same.refl _)
theorem s_expr {e : Expr} {g : Rho → Out D} {pos : Pos} (he : DE X m W e g) (hs : swapsWith e none pos.line X.env = pure false := by rfl) : DS X m W (.Expr e pos) (sExpr g) := PS.imp (ps_expr he hs) fun Dn σ H h => by
  obtain ⟨F, ρ, r, a⟩ := h
  exact ⟨F, ρ, r, (Aft.fl a).imp fun d ρ1 F1 H1 r1 s1 a1 v rv => a1 F1 σ H1 r1 (Same.refl _)⟩
theorem s_set {i : Nat} {x : Str} {e : Expr} {g : Rho → Out D} {pos pos' : Pos} (hN : X.N.Nodup) (hi : X.N[i]? = some x) (hx : Loc X.env.scope x) (he : DE X m W e g) (hs : swapsWith e (some (.Name x pos')) pos.line X.env = pure false := by rfl)
    (hf : X.fn x = true ∨ X.env.scope.names.lookup x = some .local := by first | exact .inl rfl | exact .inr rfl | assumption) : DS X m W (.Assign [.Name x pos'] e pos) (sSet i g) := PS.imp (ps_set hN hi hx he hs hf) fun Dn σ H h => by
  obtain ⟨F, ρ, r, a⟩ := h
  refine ⟨F, ρ, r, (Aft.fl a).imp fun d ρ1 F1 H1 r1 s1 a1 v rv => a1 F1 _ H1 (r1.store i ⟨v, rfl, rv⟩ fun _ _ _ _ _ z => by cases z) (Same.refl _)⟩
theorem s_par {i j : Nat} {x y : Str} {a b : Expr} {gs : Rho → Out (List D)} {px py pt : Pos} {kt k2 pt2} {pos : Pos} (hc : X.calm = true) (hN : X.N.Nodup) (hi : X.N[i]? = some x) (hj : X.N[j]? = some y) (hij : i ≠ j)
    (hx : X.env.scope.names.lookup x = some .local) (hy : X.env.scope.names.lookup y = some .local) (ha : DL X m W [a, b] gs)
    (hw : swappedStores [.Tuple [.Name x px, .Name y py] kt pt] (.Tuple [a, b] k2 pt2) X.env = pure (some [x, y]))
    (hs : swapsWithSole [.Tuple [.Name x px, .Name y py] kt pt] (.Tuple [a, b] k2 pt2) pos.line X.env = pure false := by rfl) :
    DS X m W (.Assign [.Tuple [.Name x px, .Name y py] kt pt] (.Tuple [a, b] k2 pt2) pos) (sPar i j gs) := PS.imp (ps_par hc hN hi hj hij hx hy ha hw hs) fun Dn σ H h => by
  obtain ⟨F, ρ, r, a⟩ := h
  refine ⟨F, ρ, r, (Aft.fl a).imp fun ds ρ1 F1 H1 r1 s1 a1 vs rvs => ?_⟩
  match ds, a1, rvs with
  | [d, e], a1, rvs =>
    obtain ⟨v, w, rfl, h1, h2⟩ := rvs.two'
    exact ⟨v, w, rfl, a1 F1 _ H1 ((r1.store i (s := .val d) ⟨v, rfl, h1⟩ fun _ _ _ _ _ z => by cases z).store j (s := .val e) ⟨w, rfl, h2⟩ fun _ _ _ _ _ z => by cases z) (Same.refl _)⟩
  | [], a1, _ => exact a1.elim
  | [_], a1, _ => exact a1.elim
  | _ :: _ :: _ :: _, a1, _ => exact a1.elim
theorem s_ret {e : Expr} {g : Rho → Out D} {pos : Pos} (he : DE X m W e g) : DS X m W (.Return (some e) pos) (sRet g) := PS.imp (ps_ret he) fun Dn σ H h => by
  obtain ⟨F, ρ, r, a⟩ := h
  exact ⟨F, ρ, r, (Aft.fl a).imp fun d ρ1 F1 H1 r1 s1 a1 v rv => a1 F1 σ H1 r1 (Same.refl _) v rv⟩
theorem s_retN {pos : Pos} : DS X m W (.Return none pos) sRetN := PS.imp ps_retN fun Dn σ H h => by
  obtain ⟨F, ρ, r, a⟩ := h
  exact a F σ H r (Same.refl _) _ rfl
theorem s_if {c : Expr} {a b : List Stmt} {t : Rho → Out Bool} {f g : Rho → Fl} {pos : Pos} (hc : DT X m W c t) (ha : DB X m W a f) (hb : DB X m W b g) : DS X m W (.If c a b pos) (sIf t f g) := PS.imp (ps_if hc ha hb) fun Dn σ H h => by
  obtain ⟨F, ρ, r, a⟩ := h
  refine ⟨F, ρ, r, (Aft.fl a).imp fun k ρ1 F1 H1 r1 s1 a1 => ?_⟩
  cases k with
  | true => exact ⟨F1, ρ1, r1, a1⟩
  | false => exact ⟨F1, ρ1, r1, a1⟩
end

/-! ### targets -/
def tG (K : PySem.W.Frag) (m : Fm) (g : D → Rho → Option Rho) : TG := fun v σ H Q => ∃ F ρ d, Rel K m F ρ σ H ∧ Rep K F d v ∧ match g d ρ with
  | some ρ' => ∀ σ', Rel K m F ρ' σ' H → Q σ' H
  | none => False
abbrev DG (X : Cx) (m : Fm) (t : Expr) (g : D → Rho → Option Rho) : Prop := PG X t (tG X.K m g)
def gSet (i : Nat) : D → Rho → Option Rho := fun d ρ => some (ρ.set i (.val d))
def gPair (g h : D → Rho → Option Rho) : D → Rho → Option Rho := fun d ρ => match d with
  | .tup [a, b] => (g a ρ).bind (h b)
  | _ => none
section
variable {X : Cx} {m : Fm} {W : WX} {K : PySem.W.Frag}
theorem g_name {i : Nat} {x : Str} {pos : Pos} (hN : X.N.Nodup) (hi : X.N[i]? = some x) (hx : Loc X.env.scope x) (hf : X.fn x = true ∨ X.env.scope.names.lookup x = some .local := by first | exact .inl rfl | exact .inr rfl | assumption) : DG X m (.Name x pos) (gSet i) :=
  PG.imp (pg_name hN hi hx hf) fun v σ H Q h => by
    obtain ⟨F, ρ, d, r, rv, a⟩ := h
    exact a _ (r.store i ⟨v, rfl, rv⟩ fun _ _ _ _ _ z => by cases z)
theorem g_pair {a b : Expr} {k : Nat} {pos : Pos} {g h : D → Rho → Option Rho} (hc : X.calm = true) (ha : DG X m a g) (hb : DG X m b h)
    (hs : (assignEach [a, b] X.env).map (·.2) = assign a X.env :: (assignEach [b] X.env).map (·.2) := by rfl) (hs2 : (assignEach [b] X.env).map (·.2) = assign b X.env :: (assignEach [] X.env).map (·.2) := by rfl)
    (hn : (assignEach [a, b] X.env).length = 2 := by rfl) (hst : (assignEach [a, b] X.env).findIdx? (·.1) = none := by rfl) : DG X m (.Tuple [a, b] k pos) (gPair g h) :=
  PG.imp (pg_tup hc (pgs_cons ha (pgs_cons hb pgs_nil hs2) hs) hn hst) fun v σ H Q q => by
    obtain ⟨F, ρ, d, r, rv, q⟩ := q
    cases hq : gPair g h d ρ with
    | none => rw [hq] at q; exact q.elim
    | some ρ' =>
      rw [hq] at q
      unfold gPair at hq
      split at hq
      · rename_i a1 b1
        obtain ⟨ρ1, e1, e2⟩ := Option.bind_eq_some_iff.mp hq
        obtain ⟨p, vs, rfl, h1, h2⟩ := r.tupOf rv
        obtain ⟨x, y, rfl, h3, h4⟩ := h2.two'
        refine ⟨p, _, rfl, h1, rfl, x, [y], rfl, ⟨F, ρ, a1, r, h3, ?_⟩⟩
        rw [e1]
        refine fun σ1 r1 => ⟨y, [], rfl, F, ρ1, b1, r1, h4, ?_⟩
        rw [e2]
        exact fun σ2 r2 => ⟨rfl, q σ2 r2⟩
      · cases hq
end

/-! ### what is walked -/
/-- what a turn yields: what stands; a new object; new objects -/
abbrev Yl (K : PySem.W.Frag) (F H : Hp) (d : D) (x : V) (H' : Hp) : Prop := (H' = H ∧ Rep K F d x) ∨ (∃ T ho, H T = none ∧ H' = upd H T ho ∧ Rep K (upd F T ho) d x) ∨
  ∃ F2, Same F F2 ∧ Same F2 H' ∧ Same H H' ∧ (∀ a, F2 a ≠ none → F a ≠ none ∨ H a = none) ∧ Rep K F2 d x
/-- J walks ds: at each turn it yields the next one, whatever the heap has grown to -/
def ItOk (K : PySem.W.Frag) (J : It) (F : Hp) (ds : List D) : Prop :=
  ∀ (i : Nat) (F' H : Hp), Same F F' → Same F' H →
    (∀ d, ds[i]? = some d → J.go i H ∧ ∀ x H', J.yld i H x H' → Yl K F' H d x H') ∧ (ds.length ≤ i → J.stop i H)
def tI (K : PySem.W.Frag) (m : Fm) (W : WX) (g : Rho → Out (List D)) : TI := fun σ H Rr => tX K m W g (fun ds _ F' H' => ∀ J, ItOk K J F' ds → Rr J H') σ H
abbrev DI (X : Cx) (m : Fm) (W : WX) (tg e : Expr) (g : Rho → Out (List D)) : Prop := PI X tg e (tI X.K m W g)
def toItems (d : D) : Option (List D) := match d with
  | .lst ds => some ds
  | .tup ds => some ds
  | _ => none
theorem itok_list {K : PySem.W.Frag} {F : Hp} {a : Addr} {ds : List D} {xs : List V} (h1 : F a = some (.lst xs)) (h2 : Reps K F ds xs) : ItOk K (Itl K a) F ds := by
  intro i F' H s1 s2
  have q : H a = some (.lst xs) := s2 _ _ (s1 _ _ h1)
  refine ⟨fun d hd => ?_, fun hl => ⟨xs, SqL.of q, by rw [h2.len]; exact hl⟩⟩
  obtain ⟨x, hx, rx⟩ := h2.at hd
  refine ⟨⟨xs, x, SqL.of q, hx⟩, fun y H' hy => .inl ⟨hy.1, ?_⟩⟩
  have e := hy.2 xs (SqL.of q)
  rw [hx] at e
  cases e
  exact Rep.mono s1 _ _ rx
theorem itok_tup {K : PySem.W.Frag} {F : Hp} {a : Addr} {ds : List D} {xs : List V} (h1 : SqT K F a xs) (h2 : Reps K F ds xs) : ItOk K (Itt K a) F ds := by
  intro i F' H s1 s2
  have q : SqT K H a xs := Same.seqT s2 (Same.seqT s1 h1)
  refine ⟨fun d hd => ?_, fun hl => ⟨xs, q, by rw [h2.len]; exact hl⟩⟩
  obtain ⟨x, hx, rx⟩ := h2.at hd
  refine ⟨⟨xs, x, q, hx⟩, fun y H' hy => .inl ⟨hy.1, ?_⟩⟩
  have e := hy.2 xs q
  rw [hx] at e
  cases e
  exact Rep.mono s1 _ _ rx
def iRange (lo hi : Int) : List D := (List.range (hi - lo).toNat).map fun i => D.int (lo + (i : Nat))
theorem itok_range {K : PySem.W.Frag} {F : Hp} {lo : Int} {n : Nat} : ItOk K (Itr lo n) F ((List.range n).map fun i => D.int (lo + (i : Nat))) := by
  intro i F' H s1 s2
  refine ⟨fun d hd => ?_, fun hl => by show n ≤ i; simpa using hl⟩
  rw [List.getElem?_map] at hd
  by_cases hi : i < n
  · rw [List.getElem?_range hi] at hd
    cases hd
    exact ⟨hi, fun y H' hy => .inl ⟨hy.1, hy.2⟩⟩
  · rw [List.getElem?_eq_none (by simpa using hi)] at hd
    cases hd
/-- for x in a list or a tuple -/
def iSeq (g : Rho → Out D) : Rho → Out (List D) := fun ρ => (g ρ).bind fun d ρ1 => lift (toItems d) ρ1
def iRng1D (gs : Rho → Out (List D)) : Rho → Out (List D) := fun ρ => (gs ρ).bind fun ds ρ1 => match ds with
  | [.int j] => if -(2 ^ 62) ≤ j ∧ j < 2 ^ 62 then .ok (iRange 0 j) ρ1 else .stuck
  | _ => .stuck
def iRng2D (gs : Rho → Out (List D)) : Rho → Out (List D) := fun ρ => (gs ρ).bind fun ds ρ1 => match ds with
  | [.int i, .int j] => if (-(2 ^ 62) ≤ i ∧ i < 2 ^ 62) ∧ -(2 ^ 62) ≤ j ∧ j < 2 ^ 62 then .ok (iRange i j) ρ1 else .stuck
  | _ => .stuck
section
variable {X : Cx} {m : Fm} {W : WX} {K : PySem.W.Frag} {tg : Expr}
theorem i_list {e : Expr} {g : Rho → Out D} (he : DE X m W e g) : DI X m W tg e (fun ρ => (g ρ).bind fun d ρ1 => match d with | .lst ds => .ok ds ρ1 | _ => .stuck) := PI.imp (pi_list he) fun σ H Rr h => by
  obtain ⟨F, ρ, r, a⟩ := h
  refine ⟨F, ρ, r, (Aft.bind a).imp fun d ρ1 F1 H1 r1 s1 a1 v rv => ?_⟩
  cases d <;> try exact a1.elim
  obtain ⟨p, vs, rfl, h1, h2⟩ := rv
  exact ⟨p, rfl, ⟨vs, SqL.of (r1.sub _ _ h1)⟩, a1 F1 H1 r1 (Same.refl _) _ (itok_list h1 h2)⟩
theorem i_tup {e : Expr} {g : Rho → Out D} (he : DE X m W e g) : DI X m W tg e (fun ρ => (g ρ).bind fun d ρ1 => match d with | .tup ds => .ok ds ρ1 | _ => .stuck) := PI.imp (pi_tup he) fun σ H Rr h => by
  obtain ⟨F, ρ, r, a⟩ := h
  refine ⟨F, ρ, r, (Aft.bind a).imp fun d ρ1 F1 H1 r1 s1 a1 v rv => ?_⟩
  cases d <;> try exact a1.elim
  obtain ⟨p, vs, rfl, h1, h2⟩ := rv
  exact ⟨p, rfl, ⟨vs, Same.seqT r1.sub h1⟩, a1 F1 H1 r1 (Same.refl _) _ (itok_tup h1 h2)⟩
theorem i_range1 {a : Expr} {gs : Rho → Out (List D)} {p pos : Pos} (hg : Gl X "range") (hm : X.mg "range" = none) (ha : DL X m W [a] gs) (hs : starEach [a] X.env = [(false, eval a X.env)] := by rfl) : DI X m W tg (.Call (.Name "range" p) [a] [] pos) (iRng1D gs) :=
  PI.imp (pi_range1 hg hm ha hs) fun σ H Rr h => by
    obtain ⟨F, ρ, r, a⟩ := h
    refine ⟨F, ρ, r, (Aft.bind a).imp fun ds ρ1 F1 H1 r1 s1 a1 vs rvs => ?_⟩
    split at a1
    · rename_i j
      obtain ⟨v, rfl, q⟩ := rvs.one'
      split at a1
      · rename_i hz
        have e : (j - 0).toNat = j.toNat := by omega
        refine ⟨j, by rw [show v = _ from q], hz.1, hz.2, a1 F1 H1 r1 (Same.refl _) _ ?_⟩
        unfold iRange
        rw [e]
        exact itok_range
      · exact a1.elim
    · exact a1.elim
theorem i_range2 {a b : Expr} {gs : Rho → Out (List D)} {p pos : Pos} (hg : Gl X "range") (hm : X.mg "range" = none) (ha : DL X m W [a, b] gs) (hs : starEach [a, b] X.env = [(false, eval a X.env), (false, eval b X.env)] := by rfl) (hs2 : starEach [b] X.env = [(false, eval b X.env)] := by rfl) : DI X m W tg (.Call (.Name "range" p) [a, b] [] pos) (iRng2D gs) :=
  PI.imp (pi_range2 hg hm ha hs hs2) fun σ H Rr h => by
    obtain ⟨F, ρ, r, a⟩ := h
    refine ⟨F, ρ, r, (Aft.bind a).imp fun ds ρ1 F1 H1 r1 s1 a1 vs rvs => ?_⟩
    split at a1
    · rename_i i j
      obtain ⟨v, w, rfl, q, q2⟩ := rvs.two'
      split at a1
      · rename_i hz
        refine ⟨i, j, by rw [show v = _ from q, show w = _ from q2], ⟨hz.1.1, hz.1.2, hz.2.1, hz.2.2⟩, a1 F1 H1 r1 (Same.refl _) _ itok_range⟩
      · exact a1.elim
    · exact a1.elim
end

/-! ### for -/
def forD (gt : D → Rho → Option Rho) (body : Rho → Fl) : List D → Rho → Fl
  | [], ρ => .nx ρ
  | d :: ds, ρ => match gt d ρ with
    | none => .stuck
    | some ρ1 => match body ρ1 with
      | .nx ρ2 => forD gt body ds ρ2
      | .ct ρ2 => forD gt body ds ρ2
      | .bk ρ2 => .nx ρ2
      | .rt a ρ2 => .rt a ρ2
      | .exc C ns xs ρ2 => .exc C ns xs ρ2
      | .stuck => .stuck
def sFor (gs : Rho → Out (List D)) (gt : D → Rho → Option Rho) (body : Rho → Fl) : Rho → Fl := fun ρ => (gs ρ).fl fun ds ρ1 => forD gt body ds ρ1
theorem Rel.yields {K : PySem.W.Frag} {m : Fm} {F H H' : Hp} {ρ : Rho} {σ : St} {d : D} {x : V} (r : Rel K m F ρ σ H) (h : Yl K F H d x H') : ∃ F', Rel K m F' ρ σ H' ∧ Same F F' ∧ Rep K F' d x := by
  rcases h with ⟨e, h⟩ | ⟨T, ho, n, e, h⟩ | ⟨F2, s1, s2, s3, g, h⟩
  · subst e
    exact ⟨F, r, Same.refl _, h⟩
  · subst e
    obtain ⟨r', s⟩ := r.fresh (o := ho) n
    exact ⟨_, r', s, h⟩
  · exact ⟨F2, r.grown s1 s2 s3 g, s1, h⟩
section
variable {X : Cx} {m : Fm} {W : WX} {K : PySem.W.Frag}
theorem s_for {tg iter : Expr} {body : List Stmt} {gs : Rho → Out (List D)} {gt : D → Rho → Option Rho} {f : Rho → Fl} {pos : Pos} (hp : PassesOwn (model X.prog X.w) X.A X.env X.xe) (hc : X.calm = true) (hi : DI X m W tg iter gs) (hg : DG X m tg gt) (hb : DB X m W body f)
    (hs : ∀ x, foldedSetIterable iter X.env x = pure x := by intro _; rfl) : DS X m W (.For tg iter body [] pos) (sFor gs gt f) := PS.imp (ps_for hp hc hi hg hb hs) fun Dn σ H h => by
  obtain ⟨F, ρ, r, a⟩ := h
  refine ⟨F, ρ, r, (Aft.fl a).imp fun ds ρ1 F1 H1 r1 s1 a1 J hJ => ?_⟩
  let Rt : R → Rho → St → Hp → Hp → Prop := fun a _ _ F' H' => ∀ v, RepR X.K m F' H' a v → Dn.rt v H'
  refine ⟨fun i n σ2 H2 => ∃ F2 ρ2, n = ds.length - i ∧ i ≤ ds.length ∧ Same F1 F2 ∧ Rel X.K m F2 ρ2 σ2 H2 ∧ AftF X.K m W F2 (forD gt f (ds.drop i) ρ2) Dn Rt, ⟨ds.length, F1, ρ1, by simp, Nat.zero_le _, Same.refl _, r1, by simpa using a1⟩, ?_⟩
  rintro i n σ2 H2 ⟨F2, ρ2, rfl, hi, s2, r2, a2⟩
  obtain ⟨j1, j2⟩ := hJ i F2 H2 s2 r2.sub
  by_cases hlt : i < ds.length
  · have hd : ds[i]? = some ds[i] := List.getElem?_eq_getElem hlt
    obtain ⟨go, yl⟩ := j1 _ hd
    have e := List.drop_eq_getElem_cons hlt
    rw [e] at a2
    unfold forD at a2
    refine .inr ⟨go, fun σ' H' => ∃ F2 ρ2, Same F1 F2 ∧ Rel X.K m F2 ρ2 σ' H' ∧ AftF X.K m W F2 (forD gt f (ds.drop (i + 1)) ρ2) Dn Rt, fun σ' H' ⟨F', ρ', q1, q2, q3⟩ => ⟨ds.length - (i + 1), by omega, F', ρ', rfl, hlt, q1, q2, q3⟩, fun x H' hy => ?_⟩
    obtain ⟨F3, r3, s3, q⟩ := r2.yields (yl x H' hy)
    refine ⟨F3, ρ2, ds[i], r3, q, ?_⟩
    cases e1 : gt ds[i] ρ2 with
    | none => rw [e1] at a2; exact a2.elim
    | some ρ3 =>
      rw [e1] at a2
      intro σ3 r4
      refine ⟨F3, ρ3, r4, ?_⟩
      dsimp only at a2
      have a3 := a2.weak s3
      cases e2 : f ρ3 with
      | nx ρ4 => rw [e2] at a3; exact fun F' σ' H' r' s' => ⟨F', ρ4, (s2.trans s3).trans s', r', a3.weak s'⟩
      | ct ρ4 => rw [e2] at a3; exact fun F' σ' H' r' s' => ⟨F', ρ4, (s2.trans s3).trans s', r', a3.weak s'⟩
      | bk ρ4 => rw [e2] at a3; exact a3
      | rt v ρ4 => rw [e2] at a3; exact a3
      | exc C ns xs ρ4 => rw [e2] at a3; exact a3
      | stuck => rw [e2] at a3; exact a3
  · have e : i = ds.length := by omega
    subst e
    refine .inl ⟨j2 (Nat.le_refl _), ?_⟩
    rw [List.drop_length] at a2
    exact a2 F2 σ2 H2 r2 (Same.refl _)
end
end Lt

/-! # Comprehensions; assignment to any target; lists of a name's own -/
namespace Lt
open PySem PySem.Spec L2

def sAsg (g : Rho → Out D) (gt : D → Rho → Option Rho) : Rho → Fl := fun ρ => (g ρ).fl fun d ρ1 => match gt d ρ1 with
  | some ρ2 => .nx ρ2
  | none => .stuck
section
variable {X : Cx} {m : Fm} {W : WX} {K : PySem.W.Frag}
theorem s_asg {tg e : Expr} {g : Rho → Out D} {gt : D → Rho → Option Rho} {pos : Pos} (he : DE X m W e g) (hg : DG X m tg gt) (hs : swapsWithSole [tg] e pos.line X.env = pure false := by rfl) (hw : swappedStores [tg] e X.env = pure none := by rfl)
    (h1 : (assignEach [tg] X.env).map (·.2) = [assign tg X.env] := by rfl) : DS X m W (.Assign [tg] e pos) (sAsg g gt) := PS.imp (ps_asg he hg hs hw h1) fun Dn σ H h => by
  obtain ⟨F, ρ, r, a⟩ := h
  refine ⟨F, ρ, r, (Aft.fl a).imp fun d ρ1 F1 H1 r1 s1 a1 v rv => ⟨F1, ρ1, d, r1, rv, ?_⟩⟩
  cases e : gt d ρ1 with
  | none => rw [e] at a1; exact a1.elim
  | some ρ2 => rw [e] at a1; exact fun σ' r' => a1 F1 σ' H1 r' (Same.refl _)
end

/-! ### targets of a comprehension -/
def tGv (K : PySem.W.Frag) (m : Fm) (vs : List Nat) (g : D → Rho → Option Rho) : TG := fun v σ H Q => ∃ F ρ d, Rel K m F ρ σ H ∧ Rep K F d v ∧ match g d ρ with
  | some ρ' => ∀ σ', Rel K m F ρ' σ' H → wipe σ' vs = wipe σ vs → Q σ' H
  | none => False
abbrev DGv (X : Cx) (m : Fm) (vs : List Nat) (t : Expr) (g : D → Rho → Option Rho) : Prop := PG X t (tGv X.K m vs g)
theorem wipe_set {σ : St} {i : Nat} {x : Option V} : ∀ {vs : List Nat}, i ∈ vs → wipe (σ.set i x) vs = wipe σ vs
  | v :: vs, h => by
    show (wipe (σ.set i x) vs).set v none = (wipe σ vs).set v none
    by_cases e : i ∈ vs
    · rw [wipe_set e]
    · have e2 : i = v := by rcases List.mem_cons.mp h with q | q; exact q; exact absurd q e
      subst e2
      have key : ∀ (us : List Nat), i ∉ us → (wipe (σ.set i x) us).set i none = (wipe σ us).set i none := by
        intro us
        induction us with
        | nil => intro _; show (σ.set i x).set i none = σ.set i none; rw [List.set_set]
        | cons u us ih =>
          intro hn
          have h1 : i ≠ u := fun q => hn (q ▸ List.mem_cons_self)
          show ((wipe (σ.set i x) us).set u none).set i none = ((wipe σ us).set u none).set i none
          rw [List.set_comm _ _ (Ne.symm h1), ih (fun q => hn (List.mem_cons_of_mem _ q)), List.set_comm _ _ h1]
      exact key vs e
section
variable {X : Cx} {m : Fm} {W : WX} {K : PySem.W.Frag}
theorem g_nameV {i : Nat} {vs : List Nat} {x : Str} {pos : Pos} (hv : i ∈ vs) (hN : X.N.Nodup) (hi : X.N[i]? = some x) (hx : Loc X.env.scope x) (hf : X.fn x = true ∨ X.env.scope.names.lookup x = some .local := by first | exact .inl rfl | exact .inr rfl | assumption) : DGv X m vs (.Name x pos) (gSet i) :=
  PG.imp (pg_name hN hi hx hf) fun v σ H Q h => by
    obtain ⟨F, ρ, d, r, rv, a⟩ := h
    exact a _ (r.store i ⟨v, rfl, rv⟩ fun _ _ _ _ _ z => by cases z) (wipe_set hv)
theorem g_pairV {a b : Expr} {k : Nat} {pos : Pos} {vs : List Nat} {g h : D → Rho → Option Rho} (hc : X.calm = true) (ha : DGv X m vs a g) (hb : DGv X m vs b h)
    (hs : (assignEach [a, b] X.env).map (·.2) = assign a X.env :: (assignEach [b] X.env).map (·.2) := by rfl) (hs2 : (assignEach [b] X.env).map (·.2) = assign b X.env :: (assignEach [] X.env).map (·.2) := by rfl)
    (hn : (assignEach [a, b] X.env).length = 2 := by rfl) (hst : (assignEach [a, b] X.env).findIdx? (·.1) = none := by rfl) : DGv X m vs (.Tuple [a, b] k pos) (gPair g h) :=
  PG.imp (pg_tup hc (pgs_cons ha (pgs_cons hb pgs_nil hs2) hs) hn hst) fun v σ H Q q => by
    obtain ⟨F, ρ, d, r, rv, q⟩ := q
    cases hq : gPair g h d ρ with
    | none => rw [hq] at q; exact q.elim
    | some ρ' =>
      rw [hq] at q
      unfold gPair at hq
      split at hq
      · rename_i a1 b1
        obtain ⟨ρ1, e1, e2⟩ := Option.bind_eq_some_iff.mp hq
        obtain ⟨p, vs, rfl, h1, h2⟩ := r.tupOf rv
        obtain ⟨x, y, rfl, h3, h4⟩ := h2.two'
        refine ⟨p, _, rfl, h1, rfl, x, [y], rfl, ⟨F, ρ, a1, r, h3, ?_⟩⟩
        rw [e1]
        refine fun σ1 r1 w1 => ⟨y, [], rfl, F, ρ1, b1, r1, h4, ?_⟩
        rw [e2]
        exact fun σ2 r2 w2 => ⟨rfl, q σ2 r2 (w2.trans w1)⟩
      · cases hq
end

/-! ### one object set aside -/
/-- p, with o there, is held by no name -/
structure Aside (m : Fm) (F : Hp) (ρ : Rho) (σ : St) (H : Hp) (p : Addr) (o : HO) : Prop where
  at_ : H p = some o
  fz : F p = none
  he : m.He p = none
  nb : p ∉ m.B
  ns : ∀ (j : Nat) (b : Option Nat) (o' : O), ρ[j]? = some (.own b o') → σ[j]? = some (some (.ref p)) → False
/-- the frame in which p is kept as it is -/
def Fm.put (m : Fm) (p : Addr) (o : HO) : Fm := { m with He := upd m.He p o }
theorem Fm.put_none {m : Fm} {p d : Addr} {o : HO} (hn : m.He p = none) (q : (m.put p o).He d = none) : m.He d = none := by
  by_cases e : d = p
  · subst e; exact hn
  · have q' : upd m.He p o d = none := q
    rw [upd_ne e] at q'; exact q'
section
variable {K : PySem.W.Frag} {m : Fm} {F H : Hp} {ρ : Rho} {σ : St} {p : Addr} {o : HO}
theorem Rel.aside (r : Rel K m F ρ σ H) (a : Aside m F ρ σ H p o) : Rel K (m.put p o) F ρ σ H where
  sub0 := r.sub0
  sub := r.sub
  prot := fun b u h n => by
    have h' : upd m.He p o b = some u := h
    by_cases e : b = p
    · subst e; rw [upd_same] at h'; cases h'; exact a.at_
    · rw [upd_ne e] at h'; exact r.prot b u h' n
  grow := fun b h => by
    rcases r.grow b h with q | q
    · exact .inl q
    · refine .inr ?_
      show upd m.He p o b = none
      rw [upd_ne (fun e => by rw [e] at h; exact h a.fz)]
      exact q
  bor := r.bor
  len := r.len
  slot := fun i s h => by
    obtain ⟨ov, h1, h2⟩ := r.slot i s h
    refine ⟨ov, h1, ?_⟩
    cases s with
    | no => trivial
    | exn _ _ => exact h2
    | val d => exact h2
    | own b o' =>
      obtain ⟨q, ho, e1, e2, e3, e4, e5⟩ := h2
      refine ⟨q, ho, e1, e2, e3, e4, ?_⟩
      cases b with
      | some a' => exact e5
      | none =>
        show upd m.He p o q = none
        rw [upd_ne (fun e => by subst e; subst e1; exact a.ns i _ _ h h1)]
        exact e5
  dist := r.dist
  bh := fun b h => by
    show upd m.He p o b ≠ none
    rw [upd_ne (fun e : b = p => a.nb (by rw [← e]; exact h))]
    exact r.bh b h
theorem Rel.unaside (r : Rel K (m.put p o) F ρ σ H) (hn : m.He p = none) (hb : p ∉ m.B) (h0 : m.F0 p = none) : Rel K m F ρ σ H ∧ Aside m F ρ σ H p o := by
  have hp : (m.put p o).He p = some o := upd_same
  have hf : F p = none := by
    cases z : F p with
    | none => rfl
    | some u =>
      rcases r.grow p (by rw [z]; simp) with q | q
      · exact absurd h0 q
      · rw [hp] at q; cases q
  have key : ∀ b, (m.put p o).He b = none → m.He b = none := fun b q => by
    by_cases e : b = p
    · subst e; exact hn
    · have q' : upd m.He p o b = none := q
      rw [upd_ne e] at q'; exact q'
  refine ⟨⟨r.sub0, r.sub, fun b u h n => r.prot b u ?_ n, fun b h => (r.grow b h).imp id (key b), r.bor, r.len, fun i s h => ?_, r.dist, fun b h e => r.bh b h (by
      show upd m.He p o b = none
      rw [upd_ne (fun e : b = p => hb (by rw [← e]; exact h))]
      exact e)⟩, ⟨r.prot p o hp hb, hf, hn, hb, fun j b o' h1 h2 => ?_⟩⟩
  · show upd m.He p o b = some u
    rw [upd_ne (ne_of_none h hn)]
    exact h
  · obtain ⟨ov, h1, h2⟩ := r.slot i s h
    refine ⟨ov, h1, ?_⟩
    cases s with
    | no => trivial
    | exn _ _ => exact h2
    | val d => exact h2
    | own b o' =>
      obtain ⟨q, ho, e1, e2, e3, e4, e5⟩ := h2
      refine ⟨q, ho, e1, e2, e3, e4, ?_⟩
      cases b with
      | some a' => exact e5
      | none => exact key q e5
  · obtain ⟨ov, q1, q2⟩ := r.slot j _ h1
    obtain ⟨q, ho, e1, e2, e3, e4, e5⟩ := q2
    rw [h2] at q1
    cases q1
    cases e1
    cases b with
    | some a' => exact hb (List.mem_of_getElem? e5)
    | none => have e6 : (m.put p o).He p = none := e5; rw [hp] at e6; cases e6
/-- the object set aside is changed -/
theorem Rel.change (r : Rel K m F ρ σ H) (a : Aside m F ρ σ H p o) (o' : HO) : Rel K m F ρ σ (upd H p o') ∧ Aside m F ρ σ (upd H p o') p o' := by
  have ne : ∀ b, F b ≠ none → b ≠ p := fun b h e => h (e ▸ a.fz)
  refine ⟨⟨r.sub0, fun b u h => ?_, fun b u h n => ?_, r.grow, fun b h => ?_, r.len, fun i s h => ?_, r.dist, r.bh⟩, ⟨upd_same, a.fz, a.he, a.nb, a.ns⟩⟩
  · rw [upd_ne (ne b (by rw [h]; simp))]; exact r.sub b u h
  · rw [upd_ne (ne_of_none h a.he)]; exact r.prot b u h n
  · rw [upd_ne (fun e : b = p => a.nb (by rw [← e]; exact h))]; exact r.bor b h
  · obtain ⟨ov, h1, h2⟩ := r.slot i s h
    refine ⟨ov, h1, ?_⟩
    cases s with
    | no => trivial
    | exn _ _ => exact h2
    | val d => exact h2
    | own b o2 =>
      obtain ⟨q, ho, e1, e2, e3, e4, e5⟩ := h2
      refine ⟨q, ho, e1, ?_, e3, e4, e5⟩
      rw [upd_ne (fun e => by subst e; subst e1; exact a.ns i _ _ h h1)]
      exact e2
/-- .. is frozen -/
theorem Rel.freeze (r : Rel K m F ρ σ H) (a : Aside m F ρ σ H p o) : Rel K m (upd F p o) ρ σ H ∧ Same F (upd F p o) := by
  have e : Same F (upd F p o) := fun b u h => by rw [upd_ne (ne_of_none h a.fz)]; exact h
  have back : ∀ b, b ≠ p → upd F p o b = F b := fun b h => upd_ne h
  refine ⟨⟨r.sub0.trans e, fun b u h => ?_, r.prot, fun b h => ?_, fun b h => ?_, r.len, fun i s h => ?_, r.dist, r.bh⟩, e⟩
  · by_cases hb : b = p
    · subst hb; rw [upd_same] at h; cases h; exact a.at_
    · rw [upd_ne hb] at h; exact r.sub b u h
  · by_cases hb : b = p
    · subst hb; exact .inr a.he
    · rw [upd_ne hb] at h; exact r.grow b h
  · obtain ⟨h1, h2⟩ := r.bor b h
    exact ⟨h1, by rw [upd_ne (fun e : b = p => a.nb (by rw [← e]; exact h))]; exact h2⟩
  · obtain ⟨ov, h1, h2⟩ := r.slot i s h
    refine ⟨ov, h1, ?_⟩
    cases s with
    | no => trivial
    | exn _ _ => exact h2
    | val d => obtain ⟨v, q1, q2⟩ := h2; exact ⟨v, q1, Rep.mono e _ _ q2⟩
    | own b o2 =>
      obtain ⟨q, ho, e1, e2, e3, e4, e5⟩ := h2
      refine ⟨q, ho, e1, e2, RepO.mono e e3, ?_, e5⟩
      rw [upd_ne (fun z => by subst z; subst e1; exact a.ns i _ _ h h1)]
      exact e4
/-- a new object set aside -/
theorem Rel.aside_new (r : Rel K m F ρ σ H) (n : H p = none) (o : HO) : Rel K m F ρ σ (upd H p o) ∧ Aside m F ρ σ (upd H p o) p o := by
  refine ⟨r.laid n, ⟨upd_same, r.f_none n, r.he_none n, fun h => (r.bor p h).1 n, fun j b o' h1 h2 => ?_⟩⟩
  obtain ⟨ov, q1, q2⟩ := r.slot j _ h1
  obtain ⟨q, ho, e1, e2, _⟩ := q2
  rw [h2] at q1
  cases q1
  cases e1
  rw [n] at e2
  cases e2
/-- names forgotten -/
def clr (ρ : Rho) : List Nat → Rho
  | [] => ρ
  | v :: vs => (clr ρ vs).set v .no
theorem clr_length (ρ : Rho) : ∀ vs : List Nat, (clr ρ vs).length = ρ.length
  | [] => rfl
  | v :: vs => by unfold clr; rw [List.length_set, clr_length ρ vs]
theorem clr_at {ρ : Rho} {i : Nat} {s : S} : ∀ {vs : List Nat}, (clr ρ vs)[i]? = some s → s = .no ∨ (ρ[i]? = some s ∧ i ∉ vs)
  | [], h => .inr ⟨h, by simp⟩
  | v :: vs, h => by
    unfold clr at h
    by_cases e : i = v
    · subst e
      by_cases hl : i < (clr ρ vs).length
      · rw [List.getElem?_set_self hl] at h; cases h; exact .inl rfl
      · rw [List.getElem?_eq_none (by simpa using hl)] at h; cases h
    · rw [List.getElem?_set_ne (Ne.symm e)] at h
      rcases clr_at h with q | ⟨q1, q2⟩
      · exact .inl q
      · exact .inr ⟨q1, fun z => (List.mem_cons.mp z).elim e q2⟩
theorem Rel.clr (r : Rel K m F ρ σ H) {vs : List Nat} {σ' : St} (hl : σ'.length = σ.length) (h : ∀ i, i ∉ vs → σ'[i]? = σ[i]?) : Rel K m F (clr ρ vs) σ' H where
  sub0 := r.sub0
  sub := r.sub
  prot := r.prot
  grow := r.grow
  bor := r.bor
  len := by rw [clr_length, hl]; exact r.len
  slot := fun i s q => by
    rcases clr_at q with e | ⟨q1, q2⟩
    · subst e
      have hi : i < σ'.length := by
        rw [hl, ← r.len, ← clr_length ρ vs]
        exact (List.getElem?_eq_some_iff.mp q).1
      exact ⟨_, List.getElem?_eq_getElem hi, trivial⟩
    · obtain ⟨ov, h1, h2⟩ := r.slot i s q1
      exact ⟨ov, by rw [h i q2]; exact h1, h2⟩
  dist := fun i j a b o b' o' ne h1 h2 h3 h4 => by
    rcases clr_at h1 with e | ⟨q1, q2⟩
    · cases e
    · rcases clr_at h2 with e | ⟨q3, q4⟩
      · cases e
      · rw [h i q2] at h3
        rw [h j q4] at h4
        exact r.dist i j a b o b' o' ne q1 q3 h3 h4
  bh := r.bh
end
theorem wipe_at {σ : St} {i : Nat} : ∀ {vs : List Nat}, i ∉ vs → (wipe σ vs)[i]? = σ[i]?
  | [], _ => rfl
  | v :: vs, h => by
    show ((wipe σ vs).set v none)[i]? = _
    rw [List.getElem?_set_ne (fun e : v = i => h (by rw [e]; exact List.mem_cons_self))]
    exact wipe_at fun z => h (List.mem_cons_of_mem _ z)

/-! ### [e for x in .. if t] -/
def tYesD : Rho → Out Bool := fun ρ => .ok true ρ
abbrev DTs (X : Cx) (m : Fm) (W : WX) (ifs : List Expr) (g : Rho → Out Bool) : Prop := PTs X ifs (tBl X.K m W g)
theorem PTs.imp {X : Cx} {e : List Expr} {t t' : TT} (h : PTs X e t) (i : ∀ σ H Q, t' σ H Q → t σ H Q) : PTs X e t' := ⟨fun pins s σ H Q I q => h.run pins s σ H Q I (i σ H Q q)⟩
theorem ts_nil {X : Cx} {m : Fm} {W : WX} : DTs X m W [] tYesD := PTs.imp pts_nil fun σ H Q h => by
  obtain ⟨F, ρ, r, a⟩ := h
  exact a F H r (Same.refl _)
theorem ts_one {X : Cx} {m : Fm} {W : WX} {c : Expr} {g : Rho → Out Bool} (h : DT X m W c g) : DTs X m W [c] g := pts_one h
def lcD (vs : List Nat) (gt : D → Rho → Option Rho) (t : Rho → Out Bool) (ge : Rho → Out D) : List D → List D → Rho → Out D
  | [], acc, ρ => .ok (.lst acc) (clr ρ vs)
  | d :: ds, acc, ρ => match gt d (clr ρ vs) with
    | none => .stuck
    | some ρ1 => (t ρ1).bind fun b ρ2 => if b = true then (ge ρ2).bind fun e ρ3 => if acc.length < sizeLine then lcD vs gt t ge ds (acc ++ [e]) ρ3 else .stuck else lcD vs gt t ge ds acc ρ2
def eLc (vs : List Nat) (gs : Rho → Out (List D)) (gt : D → Rho → Option Rho) (t : Rho → Out Bool) (ge : Rho → Out D) : Rho → Out D := fun ρ => (gs ρ).bind fun ds ρ1 => lcD vs gt t ge ds [] ρ1
/-- nothing is let out -/
def W0 : WX := fun _ _ _ _ => False
theorem Aft.w0 {α : Type} {K : PySem.W.Frag} {m m' : Fm} {W W' : WX} {F : Hp} {σ σ' : St} {r : Out α} {P : α → Rho → Hp → Hp → Prop} (hw : ∀ C ns ds ρ', r ≠ .exc C ns ds ρ') (h : Aft K m W F σ r P) : r ≠ .stuck := by
  intro e; rw [e] at h; exact h
section
variable {X : Cx} {m : Fm} {W : WX} {K : PySem.W.Frag}
/-- no error comes out -/
def noExc {α : Type} : Out α → Prop
  | .exc _ _ _ _ => False
  | _ => True
theorem Aft.quiet {α : Type} {F : Hp} {σ : St} {r : Out α} {P : α → Rho → Hp → Hp → Prop} (h : Aft K m W0 F σ r P) (W : WX) : Aft K m W F σ r P := by
  cases r with
  | ok a ρ' => exact h
  | exc C ns ds ρ' => exact fun F' H' dd r s x => (h F' H' dd r s x).elim
  | stuck => exact h
/-- what the source says with errors let out, the rest without -/
def eLcQ (vs : List Nat) (gs : Rho → Out (List D)) (gt : D → Rho → Option Rho) (t : Rho → Out Bool) (ge : Rho → Out D) : Rho → Out D := fun ρ => (gs ρ).bind fun ds ρ1 => match lcD vs gt t ge ds [] ρ1 with
  | .ok d ρ2 => .ok d ρ2
  | _ => .stuck
theorem lc_of {wi : TI} {vs : List Nat} {gs : Rho → Out (List D)} {gt : D → Rho → Option Rho} {t : Rho → Out Bool} {ge : Rho → Out D} {g : TG} {tt : TT} {te : TE} (hi : ∀ σ H Rr, tI K m W gs σ H Rr → wi σ H Rr)
    (hg : ∀ m v σ H Q, tGv K m vs gt v σ H Q → g v σ H Q) (ht : ∀ m σ H Q, tBl K m W0 t σ H Q → tt σ H Q) (he : ∀ m σ H Q, tD K m W0 ge σ H Q → te σ H Q)
    {σ : St} {H : Hp} {Q : VK} (h : tD K m W (eLcQ vs gs gt t ge) σ H Q) : tLc wi g tt te vs σ H Q := by
  obtain ⟨F, ρ, r, a⟩ := h
  refine hi _ _ _ ⟨F, ρ, r, (Aft.bind a).imp fun ds ρ1 F1 H1 r1 s1 a1 J hJ Dd nd => ?_⟩
  -- the loop's outcome
  have a1' : ∃ d ρe, lcD vs gt t ge ds [] ρ1 = .ok d ρe ∧ ∀ F' H', Rel K m F' ρe σ H' → Same F1 F' → ∀ v, Rep K F' d v → Q v H' := by
    cases e : lcD vs gt t ge ds [] ρ1 with
    | ok d ρe => rw [e] at a1; exact ⟨d, ρe, rfl, a1⟩
    | exc C ns xs ρe => rw [e] at a1; exact a1.elim
    | stuck => rw [e] at a1; exact a1.elim
  obtain ⟨dd, ρe, e0, fin⟩ := a1'
  have hD0 : m.F0 Dd = none := by
    cases z : m.F0 Dd with
    | none => rfl
    | some u => rw [r1.sub _ _ (r1.sub0 _ _ z)] at nd; cases nd
  obtain ⟨rn, an⟩ := r1.aside_new nd (.lst [])
  have hw : ∀ {σ1 : St}, wipe σ1 vs = wipe σ vs → σ1.length = σ.length → ∀ i, i ∉ vs → (wipe σ vs)[i]? = σ1[i]? := fun e _ i hi => by rw [← e]; exact wipe_at hi
  refine ⟨fun i n H2 => ∃ F2 ρ2 acc xs, n = ds.length - i ∧ i ≤ ds.length ∧ Same F1 F2 ∧ Rel K m F2 (clr ρ2 vs) (wipe σ vs) H2 ∧ Aside m F2 (clr ρ2 vs) (wipe σ vs) H2 Dd (.lst xs) ∧ Reps K F2 acc xs ∧ lcD vs gt t ge (ds.drop i) acc ρ2 = .ok dd ρe,
    ⟨ds.length, F1, ρ1, [], [], by simp, Nat.zero_le _, Same.refl _, rn.clr (wipe_length _ _) (fun i hi => wipe_at hi), ⟨an.at_, an.fz, an.he, an.nb, fun j b o' h1 h2 => ?_⟩, rfl, by simpa using e0⟩, ?_⟩
  · rcases clr_at h1 with z | ⟨q1, q2⟩
    · cases z
    · rw [wipe_at q2] at h2
      exact an.ns j b o' q1 h2
  rintro i n H2 ⟨F2, ρ2, acc, xs, rfl, hi, s2, r2, a2, rx, e2⟩
  obtain ⟨j1, j2⟩ := hJ i F2 H2 s2 r2.sub
  by_cases hlt : i < ds.length
  · have hd : ds[i]? = some ds[i] := List.getElem?_eq_getElem hlt
    obtain ⟨go, yl⟩ := j1 _ hd
    rw [List.drop_eq_getElem_cons hlt] at e2
    unfold lcD at e2
    refine .inr ⟨go, fun H' => ∃ F2 ρ2 acc xs, Same F1 F2 ∧ Rel K m F2 (clr ρ2 vs) (wipe σ vs) H' ∧ Aside m F2 (clr ρ2 vs) (wipe σ vs) H' Dd (.lst xs) ∧ Reps K F2 acc xs ∧ lcD vs gt t ge (ds.drop (i + 1)) acc ρ2 = .ok dd ρe,
      fun H' ⟨F', ρ', acc', xs', q1, q2, q3, q4, q5⟩ => ⟨ds.length - (i + 1), by omega, F', ρ', acc', xs', rfl, hlt, q1, q2, q3, q4, q5⟩, fun x H' hy => ?_⟩
    -- in the frame that keeps the list
    have rk := r2.aside a2
    have yl' := yl x H' hy
    obtain ⟨F3, r3, s3, q⟩ := rk.yields yl'
    cases e1 : gt ds[i] (clr ρ2 vs) with
    | none => rw [e1] at e2; cases e2
    | some ρ3 =>
      rw [e1] at e2
      dsimp only at e2
      refine hg _ _ _ _ _ ⟨F3, clr ρ2 vs, ds[i], r3, q, ?_⟩
      rw [e1]
      refine fun σ3 r4 w3 => ?_
      have w3' : wipe σ3 vs = wipe σ vs := by
        rw [w3]
        refine List.ext_getElem? fun j => ?_
        by_cases hj : j ∈ vs
        · have z : ∀ (τ : St) (us : List Nat), j ∈ us → (wipe τ us)[j]? = if j < τ.length then some none else none := by
            intro τ us
            induction us with
            | nil => intro h; cases h
            | cons u us ih =>
              intro h
              show ((wipe τ us).set u none)[j]? = _
              by_cases e : u = j
              · subst e
                by_cases hl : u < τ.length
                · rw [List.getElem?_set_self (by rw [wipe_length]; exact hl), if_pos hl]
                · rw [List.getElem?_eq_none (by rw [List.length_set, wipe_length]; omega), if_neg hl]
              · rw [List.getElem?_set_ne e]
                exact ih ((List.mem_cons.mp h).resolve_left (Ne.symm e))
          rw [z _ _ hj, z _ _ hj, wipe_length]
        · rw [wipe_at hj]
      refine ⟨w3', ht _ _ _ _ ⟨F3, ρ3, r4, ?_⟩⟩
      have hl3 : σ3.length = σ.length := by rw [← wipe_length σ3 vs, w3', wipe_length]
      -- the way on, from any state of the frame that keeps the list
      have on : ∀ {F5 H5 : Hp} {ρ5 : Rho}, Same F3 F5 → Rel K (m.put Dd (.lst xs)) F5 ρ5 σ3 H5 → Rel K m F5 (clr ρ5 vs) (wipe σ vs) H5 ∧ Aside m F5 (clr ρ5 vs) (wipe σ vs) H5 Dd (.lst xs) := fun {F5 H5 ρ5} s5 r5 => by
        obtain ⟨r6, a6⟩ := r5.unaside an.he an.nb hD0
        refine ⟨r6.clr (by rw [wipe_length, hl3]) (fun j hj => hw w3' hl3 j hj), ⟨a6.at_, a6.fz, a6.he, a6.nb, fun j b o' h1 h2 => ?_⟩⟩
        rcases clr_at h1 with z | ⟨q1, q2⟩
        · cases z
        · rw [hw w3' hl3 j q2] at h2
          exact a6.ns j b o' q1 h2
      cases et : t ρ3 with
      | stuck => rw [et] at e2; cases e2
      | exc C ns ds' ρ' => rw [et] at e2; cases e2
      | ok b ρ4 =>
        rw [et] at e2
        intro F4 H4 r5 s4
        show if b = true then _ else _
        cases b with
        | false =>
          rw [bind_ok, if_neg Bool.false_ne_true] at e2
          rw [if_neg Bool.false_ne_true]
          obtain ⟨r6, a6⟩ := on s4 r5
          exact ⟨F4, ρ4, acc, xs, (s2.trans s3).trans s4, r6, a6, Reps.mono (s3.trans s4) _ _ rx, e2⟩
        | true =>
          rw [bind_ok, if_pos rfl] at e2
          rw [if_pos rfl]
          refine he _ _ _ _ ⟨F4, ρ4, r5, ?_⟩
          cases ee : ge ρ4 with
          | stuck => rw [ee] at e2; cases e2
          | exc C ns ds' ρ' => rw [ee] at e2; cases e2
          | ok e ρ5 =>
            rw [ee, bind_ok] at e2
            intro F5 H5 r6 s5 v rv
            obtain ⟨r7, a7⟩ := on (s4.trans s5) r6
            split at e2
            · rename_i hz
              have rx5 := Reps.mono ((s3.trans s4).trans s5) _ _ rx
              obtain ⟨r8, a8⟩ := r7.change a7 (.lst (xs ++ [v]))
              exact ⟨xs, a7.at_, by rw [rx.len]; exact hz, F5, ρ5, acc ++ [e], xs ++ [v], ((s2.trans s3).trans s4).trans s5, r8, a8, rx5.snoc rv, e2⟩
            · cases e2
  · have e : i = ds.length := by omega
    subst e
    refine .inl ⟨j2 (Nat.le_refl _), ?_⟩
    rw [List.drop_length] at e2
    unfold lcD at e2
    cases e2
    have r3 : Rel K m F2 (clr ρ2 vs) σ H2 := by
      have q := r2.clr (vs := vs) (σ' := σ) (by rw [wipe_length]) fun i hi => (wipe_at hi).symm
      have e : clr (clr ρ2 vs) vs = clr ρ2 vs := by
        refine List.ext_getElem? fun j => ?_
        have z : ∀ (τ : Rho) (us : List Nat), j ∈ us → (clr τ us)[j]? = if j < τ.length then some .no else none := by
          intro τ us
          induction us with
          | nil => intro h; cases h
          | cons u us ih =>
            intro h
            show ((clr τ us).set u .no)[j]? = _
            by_cases e : u = j
            · subst e
              by_cases hl : u < τ.length
              · rw [List.getElem?_set_self (by rw [clr_length]; exact hl), if_pos hl]
              · rw [List.getElem?_eq_none (by rw [List.length_set, clr_length]; omega), if_neg hl]
            · rw [List.getElem?_set_ne e]
              exact ih ((List.mem_cons.mp h).resolve_left (Ne.symm e))
        have z2 : ∀ (τ : Rho) (us : List Nat), j ∉ us → (clr τ us)[j]? = τ[j]? := by
          intro τ us
          induction us with
          | nil => intro _; rfl
          | cons u us ih =>
            intro h
            show ((clr τ us).set u .no)[j]? = _
            rw [List.getElem?_set_ne (fun e : u = j => h (by rw [e]; exact List.mem_cons_self))]
            exact ih fun q => h (List.mem_cons_of_mem _ q)
        by_cases hj : j ∈ vs
        · rw [z _ _ hj, z _ _ hj, clr_length]
        · rw [z2 _ _ hj]
      rw [e] at q
      exact q
    have a3 : Aside m F2 (clr ρ2 vs) σ H2 Dd (.lst xs) := ⟨a2.at_, a2.fz, a2.he, a2.nb, fun j b o' h1 h2 => by
      rcases clr_at h1 with z | ⟨q1, q2⟩
      · cases z
      · exact a2.ns j b o' h1 (by rw [wipe_at q2]; exact h2)⟩
    obtain ⟨r4, s4⟩ := r3.freeze a3
    exact fin _ _ r4 (s2.trans s4) _ ⟨Dd, xs, rfl, upd_same, Reps.mono s4 _ _ rx⟩
theorem d_lc {elt tg iter : Expr} {ifs : List Expr} {scope : Scope} {own : List (Str × Nat)} {pos : Pos} {gs : Rho → Out (List D)} {gt : D → Rho → Option Rho} {t : Rho → Out Bool} {ge : Rho → Out D} (hc : X.calm = true) (hN : X.N.Nodup) (ok : BlkOk X.N X.env.scope scope own) (hi : DI X m W tg iter gs)
    (hg : ∀ (m : Fm) (s : Shared) (H : Hp) (C : Addr) (cl : List (Str × Addr)) (fp : List Addr), DGv (X.blk s H scope (compEnvC scope cl C X.env) fp) m (own.map (·.2)) tg gt) (ht : ∀ (m : Fm) (s : Shared) (H : Hp) (C : Addr) (cl : List (Str × Addr)) (fp : List Addr), DTs (X.blk s H scope (compEnvC scope cl C X.env) fp) m W0 ifs t)
    (he : ∀ (m : Fm) (s : Shared) (H : Hp) (C : Addr) (cl : List (Str × Addr)) (fp : List Addr), DE (X.blk s H scope (compEnvC scope cl C X.env) fp) m W0 elt ge) (hs : ∀ x, foldedSetIterable iter X.env x = pure x := by intro _; rfl) :
    DE X m W (.ListComp elt [⟨tg, iter, ifs, 0⟩] scope pos) (eLcQ (own.map (·.2)) gs gt t ge) :=
  PE.imp (pe_lc (g := fun v σ H Q => ∃ m, tGv X.K m (own.map (·.2)) gt v σ H Q) (tt := fun σ H Q => ∃ m, tBl X.K m W0 t σ H Q) (te := fun σ H Q => ∃ m, tD X.K m W0 ge σ H Q) hc hN hi ok
    (fun s H C cl fp => ⟨fun pins s' σ H' v u Q I r ⟨m, q⟩ => (hg m s H C cl fp).run pins s' σ H' v u Q I r q⟩) (fun s H C cl fp => ⟨fun pins s' σ H' Q I ⟨m, q⟩ => (ht m s H C cl fp).run pins s' σ H' Q I q⟩)
    (fun s H C cl fp => ⟨fun pins s' σ H' Q I ⟨m, q⟩ => (he m s H C cl fp).run pins s' σ H' Q I q⟩) hs) fun σ H Q h => lc_of (fun _ _ _ => id) (fun m _ _ _ _ q => ⟨m, q⟩) (fun m _ _ _ q => ⟨m, q⟩) (fun m _ _ _ q => ⟨m, q⟩) h
end
end Lt

/-! # Defs: what they promise, how they are called -/
namespace Lt
open PySem PySem.Spec L2

inductive Res where
  | ok (r : R) (as : List R) | exc (C : Addr) (ns : List Str) (ds : List D) (as : List R) | stuck
abbrev Fs := List R → Res
/-- a def that lends nothing -/
inductive ResP where
  | ok (r : R) | exc (C : Addr) (ns : List Str) (ds : List D) | stuck
abbrev PFs := List D → ResP
def vals : List R → Option (List D)
  | [] => some []
  | .val d :: r => (vals r).map (d :: ·)
  | _ => none
def pureF (f : PFs) : Fs := fun as => match vals as with
  | none => .stuck
  | some ds => match f ds with
    | .ok r => .ok r as
    | .exc C ns xs => .exc C ns xs as
    | .stuck => .stuck
theorem vals_map : ∀ ds : List D, vals (ds.map R.val) = some ds
  | [] => rfl
  | d :: ds => by rw [List.map_cons, vals, vals_map ds]; rfl
theorem vals_is : ∀ {as : List R} {ds : List D}, vals as = some ds → as = ds.map R.val
  | [], ds, h => by cases h; rfl
  | .val d :: r, ds, h => by
    obtain ⟨es, h1, h2⟩ := Option.map_eq_some_iff.mp (show (vals r).map (d :: ·) = some ds from h)
    subst h2
    rw [vals_is h1]; rfl
  | .own _ :: _, _, h => by cases h

def ownA : List R → List V → List Addr
  | .own _ :: as, .ref a :: vs => a :: ownA as vs
  | _ :: as, _ :: vs => ownA as vs
  | _, _ => []
section
variable (K : PySem.W.Frag)
def ArgsOk (F H : Hp) : List R → List V → Prop
  | [], vs => vs = []
  | .val d :: as, vs => ∃ v r, vs = v :: r ∧ Rep K F d v ∧ ArgsOk F H as r
  | .own o :: as, vs => ∃ a ho r, vs = .ref a :: r ∧ H a = some ho ∧ RepO K F o ho ∧ F a = none ∧ ArgsOk F H as r
/-- what is behind a call: the lent ones as they now are (bs), else all as it was, and new things -/
structure Post (F H : Hp) (as : List R) (vs : List V) (F' H' : Hp) (bs : List R) : Prop where
  fz : Same F F'
  sub : Same F' H'
  grow : ∀ a, F' a ≠ none → F a ≠ none ∨ H a = none
  keep : ∀ b o, H b = some o → b ∉ ownA as vs → H' b = some o
  own : ∀ (i : Nat) (o : O), as[i]? = some (.own o) → ∃ a o' ho, vs[i]? = some (.ref a) ∧ bs[i]? = some (.own o') ∧ H' a = some ho ∧ RepO K F' o' ho ∧ F' a = none
  len : bs.length = as.length
def ResR (F' H H' : Hp) : R → V → Prop
  | .val d, v => Rep K F' d v
  | .own o, v => ∃ a ho, v = .ref a ∧ H' a = some ho ∧ RepO K F' o ho ∧ F' a = none ∧ H a = none
def AftR (F H : Hp) (as : List R) (vs : List V) (r : Res) (Q : VK) (E : XK) : Prop := match r with
  | .ok r bs => ∀ F' H' v, Post K F H as vs F' H' bs → ResR K F' H H' r v → Q v H'
  | .exc C ns ds bs => ∀ F' H' dd, Post K F H as vs F' H' bs → ExcAt K H F' H' ns ds dd → E (.ref C) dd H'
  | .stuck => False
/-- what a def promises -/
def spF (fs : Fs) : Sp := fun vs H Q E => ∃ F as, Same F H ∧ ArgsOk K F H as vs ∧ (ownA as vs).Nodup ∧ AftR K F H as vs (fs as) Q E
end

/-- the parameters at the entry; k lent ones stand ahead -/
def ent : Nat → List R → List S
  | _, [] => []
  | k, .val d :: as => .val d :: ent k as
  | k, .own o :: as => .own (some k) o :: ent (k + 1) as
/-- what is lent as it stands at the end -/
def outs : Nat → List R → Rho → Option (List R)
  | _, [], _ => some []
  | k, .val d :: as, ρ => (outs k as ρ.tail).map (.val d :: ·)
  | k, .own _ :: as, .own (some i) o :: ρ => if i = k then (outs (k + 1) as ρ).map (.own o :: ·) else none
  | _, _, _ => none
def fin (as : List R) : Fl → Res
  | .nx ρ => match outs 0 as ρ with | some bs => .ok (.val .non) bs | none => .stuck
  | .rt r ρ => match outs 0 as ρ with | some bs => .ok r bs | none => .stuck
  | .exc C ns ds ρ => match outs 0 as ρ with | some bs => .exc C ns ds bs | none => .stuck
  | _ => .stuck
section
variable {K : PySem.W.Frag} {F H : Hp}
theorem ArgsOk.len : ∀ {as : List R} {vs : List V}, ArgsOk K F H as vs → vs.length = as.length
  | [], vs, h => by cases (show vs = [] from h); rfl
  | .val d :: as, vs, h => by
    obtain ⟨v, r, e, _, h3⟩ := (show ∃ v r, vs = v :: r ∧ Rep K F d v ∧ ArgsOk K F H as r from h)
    subst e; simp [ArgsOk.len h3]
  | .own o :: as, vs, h => by
    obtain ⟨a, ho, r, e, _, _, _, h3⟩ := (show ∃ a ho r, vs = .ref a :: r ∧ H a = some ho ∧ RepO K F o ho ∧ F a = none ∧ ArgsOk K F H as r from h)
    subst e; simp [ArgsOk.len h3]
theorem ent_len : ∀ {k : Nat} {as : List R}, (ent k as).length = as.length
  | _, [] => rfl
  | k, .val d :: as => by simp [ent, ent_len (as := as)]
  | k, .own o :: as => by simp [ent, ent_len (as := as)]
/-- the i-th parameter -/
theorem ent_at : ∀ {as : List R} {vs : List V} {k i : Nat} {s : S}, ArgsOk K F H as vs → (ent k as)[i]? = some s →
    (∃ d v, as[i]? = some (.val d) ∧ s = .val d ∧ vs[i]? = some v ∧ Rep K F d v) ∨ (∃ a o ho j, as[i]? = some (.own o) ∧ s = .own (some (k + j)) o ∧ vs[i]? = some (.ref a) ∧ H a = some ho ∧ RepO K F o ho ∧ F a = none ∧ (ownA as vs)[j]? = some a)
  | [], vs, k, i, s, h, e => by simp [ent] at e
  | .val d :: as, vs, k, i, s, h, e => by
    obtain ⟨v, r, e2, h2, h3⟩ := (show ∃ v r, vs = v :: r ∧ Rep K F d v ∧ ArgsOk K F H as r from h)
    subst e2
    cases i with
    | zero => simp [ent] at e; subst e; exact .inl ⟨d, v, rfl, rfl, rfl, h2⟩
    | succ i =>
      rcases ent_at (i := i) h3 (by simpa [ent] using e) with ⟨d', v', q1, q2, q3, q4⟩ | ⟨a, o, ho, j, q1, q2, q3, q4, q5, q6, q7⟩
      · exact .inl ⟨d', v', by simpa using q1, q2, by simpa using q3, q4⟩
      · exact .inr ⟨a, o, ho, j, by simpa using q1, q2, by simpa using q3, q4, q5, q6, by simpa [ownA] using q7⟩
  | .own o :: as, vs, k, i, s, h, e => by
    obtain ⟨a, ho, r, e2, g1, g2, g3, h3⟩ := (show ∃ a ho r, vs = .ref a :: r ∧ H a = some ho ∧ RepO K F o ho ∧ F a = none ∧ ArgsOk K F H as r from h)
    subst e2
    cases i with
    | zero => simp [ent] at e; subst e; exact .inr ⟨a, o, ho, 0, rfl, rfl, rfl, g1, g2, g3, by simp [ownA]⟩
    | succ i =>
      rcases ent_at (k := k + 1) (i := i) h3 (by simpa [ent] using e) with ⟨d', v', q1, q2, q3, q4⟩ | ⟨b, o, ho, j, q1, q2, q3, q4, q5, q6, q7⟩
      · exact .inl ⟨d', v', by simpa using q1, q2, by simpa using q3, q4⟩
      · exact .inr ⟨b, o, ho, j + 1, by simpa using q1, by rw [q2, Nat.add_assoc, Nat.add_comm 1], by simpa using q3, q4, q5, q6, by simpa [ownA] using q7⟩
theorem own_there : ∀ {as : List R} {vs : List V}, ArgsOk K F H as vs → ∀ a ∈ ownA as vs, H a ≠ none ∧ F a = none
  | [], vs, h, a, q => by simp [ownA] at q
  | .val d :: as, vs, h, a, q => by
    obtain ⟨v, r, e2, h2, h3⟩ := (show ∃ v r, vs = v :: r ∧ Rep K F d v ∧ ArgsOk K F H as r from h)
    subst e2
    exact own_there h3 a (by simpa [ownA] using q)
  | .own o :: as, vs, h, a, q => by
    obtain ⟨b, ho, r, e2, g1, g2, g3, h3⟩ := (show ∃ a ho r, vs = .ref a :: r ∧ H a = some ho ∧ RepO K F o ho ∧ F a = none ∧ ArgsOk K F H as r from h)
    subst e2
    rcases List.mem_cons.mp (show a ∈ b :: ownA as r from q) with e | q
    · subst e; exact ⟨by rw [g1]; simp, g3⟩
    · exact own_there h3 a q
/-- two lent ones are two -/
theorem own_apart : ∀ {as : List R} {vs : List V} {i j : Nat} {a : Addr} {o o' : O}, ArgsOk K F H as vs → (ownA as vs).Nodup → i ≠ j → as[i]? = some (.own o) → as[j]? = some (.own o') → vs[i]? = some (.ref a) → vs[j]? = some (.ref a) → False
  | [], _, _, _, _, _, _, _, _, _, h, _, _, _ => by simp at h
  | .val d :: as, vs, i, j, a, o, o', h, nd, ne, h1, h2, h3, h4 => by
    obtain ⟨v, r, e2, _, h5⟩ := (show ∃ v r, vs = v :: r ∧ Rep K F d v ∧ ArgsOk K F H as r from h)
    subst e2
    cases i with
    | zero => simp at h1
    | succ i =>
      cases j with
      | zero => simp at h2
      | succ j => exact own_apart (i := i) (j := j) h5 (by simpa [ownA] using nd) (fun e => ne (by rw [e])) (by simpa using h1) (by simpa using h2) (by simpa using h3) (by simpa using h4)
  | .own oo :: as, vs, i, j, a, o, o', h, nd, ne, h1, h2, h3, h4 => by
    obtain ⟨b, ho, r, e2, g1, g2, g3, h5⟩ := (show ∃ a ho r, vs = .ref a :: r ∧ H a = some ho ∧ RepO K F oo ho ∧ F a = none ∧ ArgsOk K F H as r from h)
    subst e2
    obtain ⟨n1, n2⟩ := List.nodup_cons.mp (show (b :: ownA as r).Nodup from nd)
    have key : ∀ {as : List R} {vs : List V} {i : Nat} {o : O}, ArgsOk K F H as vs → as[i]? = some (.own o) → vs[i]? = some (.ref a) → a ∈ ownA as vs := by
      intro as
      induction as with
      | nil => intro vs i o _ h; simp at h
      | cons x as ih =>
        intro vs i o h h1 h2
        cases x with
        | val d =>
          obtain ⟨v, r, e2, _, h5⟩ := (show ∃ v r, vs = v :: r ∧ Rep K F d v ∧ ArgsOk K F H as r from h)
          subst e2
          cases i with
          | zero => simp at h1
          | succ i => exact ih h5 (by simpa using h1) (by simpa using h2)
        | own o1 =>
          obtain ⟨b, ho, r, e2, _, _, _, h5⟩ := (show ∃ a ho r, vs = .ref a :: r ∧ H a = some ho ∧ RepO K F o1 ho ∧ F a = none ∧ ArgsOk K F H as r from h)
          subst e2
          cases i with
          | zero => simp at h2; subst h2; exact List.mem_cons_self
          | succ i => exact List.mem_cons_of_mem _ (ih h5 (by simpa using h1) (by simpa using h2))
    cases i with
    | zero =>
      cases j with
      | zero => exact ne rfl
      | succ j =>
        simp at h3
        subst h3
        exact n1 (key h5 (by simpa using h2) (by simpa using h4))
    | succ i =>
      cases j with
      | zero =>
        simp at h4
        subst h4
        exact n1 (key h5 (by simpa using h1) (by simpa using h3))
      | succ j => exact own_apart (i := i) (j := j) h5 n2 (fun e => ne (by rw [e])) (by simpa using h1) (by simpa using h2) (by simpa using h3) (by simpa using h4)
theorem outs_at : ∀ {as : List R} {vs : List V} {ρ : Rho} {bs : List R} {k i : Nat} {o : O}, ArgsOk K F H as vs → outs k as ρ = some bs → as[i]? = some (.own o) → ∃ a o' j, ρ[i]? = some (.own (some (k + j)) o') ∧ bs[i]? = some (.own o') ∧ vs[i]? = some (.ref a) ∧ (ownA as vs)[j]? = some a
  | [], _, _, _, _, _, _, _, _, h => by simp at h
  | .val d :: as, vs, ρ, bs, k, i, o, ha, h, h1 => by
    obtain ⟨v, r, e2, h2, h3⟩ := (show ∃ v r, vs = v :: r ∧ Rep K F d v ∧ ArgsOk K F H as r from ha)
    subst e2
    obtain ⟨cs, q1, q2⟩ := Option.map_eq_some_iff.mp (show (outs k as ρ.tail).map (.val d :: ·) = some bs from h)
    subst q2
    cases i with
    | zero => simp at h1
    | succ i =>
      obtain ⟨a, o', j, q3, q4, q5, q6⟩ := outs_at (i := i) h3 q1 (by simpa using h1)
      exact ⟨a, o', j, by rw [List.getElem?_tail] at q3; exact q3, by simpa using q4, by simpa using q5, by simpa [ownA] using q6⟩
  | .own o1 :: as, vs, .own (some x) o2 :: ρ, bs, k, i, o, ha, h, h1 => by
    obtain ⟨a, ho, r, e2, g1, g2, g3, h3⟩ := (show ∃ a ho r, vs = .ref a :: r ∧ H a = some ho ∧ RepO K F o1 ho ∧ F a = none ∧ ArgsOk K F H as r from ha)
    subst e2
    have h' : (if x = k then (outs (k + 1) as ρ).map (R.own o2 :: ·) else none) = some bs := h
    split at h'
    · rename_i e
      subst e
      obtain ⟨cs, q1, q2⟩ := Option.map_eq_some_iff.mp h'
      subst q2
      cases i with
      | zero => exact ⟨a, o2, 0, rfl, rfl, rfl, rfl⟩
      | succ i =>
        obtain ⟨b, o', j, q3, q4, q5, q6⟩ := outs_at (i := i) h3 q1 (by simpa using h1)
        exact ⟨b, o', j + 1, by rw [← Nat.add_assoc, Nat.add_right_comm]; simpa using q3, by simpa using q4, by simpa using q5, by simpa [ownA] using q6⟩
    · cases h'
  | .own o1 :: as, _, [], _, _, _, _, _, h, _ => by cases h
  | .own o1 :: as, _, .no :: ρ, _, _, _, _, _, h, _ => by cases h
  | .own o1 :: as, _, .val _ :: ρ, _, _, _, _, _, h, _ => by cases h
  | .own o1 :: as, _, .own none _ :: ρ, _, _, _, _, _, h, _ => by cases h
theorem outs_len : ∀ {k : Nat} {as : List R} {ρ : Rho} {bs : List R}, outs k as ρ = some bs → bs.length = as.length
  | _, [], _, _, h => by cases h; rfl
  | k, .val d :: as, ρ, bs, h => by
    obtain ⟨cs, q1, q2⟩ := Option.map_eq_some_iff.mp (show (outs k as ρ.tail).map (.val d :: ·) = some bs from h)
    subst q2; simp [outs_len q1]
  | k, .own o1 :: as, .own (some x) o2 :: ρ, bs, h => by
    have h' : (if x = k then (outs (k + 1) as ρ).map (R.own o2 :: ·) else none) = some bs := h
    split at h'
    · obtain ⟨cs, q1, q2⟩ := Option.map_eq_some_iff.mp h'
      subst q2; simp [outs_len q1]
    · cases h'
  | _, .own o1 :: as, [], _, h => by cases h
  | _, .own o1 :: as, .no :: ρ, _, h => by cases h
  | _, .own o1 :: as, .val _ :: ρ, _, h => by cases h
  | _, .own o1 :: as, .own none _ :: ρ, _, h => by cases h
end

/-- the slots at the entry -/
def rho0 (n : Nat) (as : List R) : Rho := ent 0 as ++ List.replicate (n - as.length) .no
section
variable {K : PySem.W.Frag}
/-- the frame's relation where the lent ones' addresses are known: B's own slots keep their places -/
theorem rel_start {F H : Hp} {as : List R} {vs : List V} {N : List Str} (s : Same F H) (a : ArgsOk K F H as vs) (nd : (ownA as vs).Nodup) (hl : as.length ≤ N.length) : Rel K ⟨F, H, ownA as vs, none⟩ F (rho0 N.length as) (L2.start N vs) H where
  sub0 := Same.refl _
  sub := s
  prot := fun _ _ h _ => h
  grow := fun _ h => .inl h
  bor := own_there a
  len := by
    have h1 := ent_len (k := 0) (as := as)
    have h2 := a.len
    unfold rho0 L2.start
    rw [List.length_append, List.length_append, List.length_replicate, List.length_replicate, List.length_map, h1, h2]
  slot := fun i t h => by
    have h1 := ent_len (k := 0) (as := as)
    have h2 := a.len
    unfold rho0 at h
    unfold L2.start
    by_cases hi : i < as.length
    · rw [List.getElem?_append_left (by rw [h1]; exact hi)] at h
      rw [List.getElem?_append_left (by rw [List.length_map, h2]; exact hi), List.getElem?_map]
      rcases ent_at a h with ⟨d, v, _, q2, q3, q4⟩ | ⟨b, o, ho, j, _, q2, q3, q4, q5, q6, q7⟩
      · rw [q3]; exact ⟨some v, rfl, by subst q2; exact ⟨v, rfl, q4⟩⟩
      · rw [q3]; exact ⟨some (.ref b), rfl, by subst q2; exact ⟨b, ho, rfl, q4, q5, q6, by show (ownA as vs)[0 + j]? = some b; rw [Nat.zero_add]; exact q7⟩⟩
    · rw [List.getElem?_append_right (by rw [h1]; omega), List.getElem?_replicate] at h
      split at h
      · rename_i hz
        cases h
        refine ⟨none, ?_, trivial⟩
        rw [List.getElem?_append_right (by rw [List.length_map, h2]; omega), List.getElem?_replicate, if_pos]
        rw [List.length_map, h2]
        rw [h1] at hz
        exact hz
      · cases h
  dist := fun i j b c o c' o' ne q1 q2 q3 q4 => by
    have h1 := ent_len (k := 0) (as := as)
    have h2 := a.len
    unfold rho0 at q1 q2
    unfold L2.start at q3 q4
    have lt : ∀ {i : Nat} {c : Option Nat} {o : O}, (ent 0 as ++ List.replicate (N.length - as.length) S.no)[i]? = some (.own c o) → i < as.length := fun {i c o} q => by
      by_cases hi : i < as.length
      · exact hi
      · rw [List.getElem?_append_right (by rw [h1]; omega), List.getElem?_replicate] at q
        split at q <;> cases q
    have li := lt q1
    have lj := lt q2
    rw [List.getElem?_append_left (by rw [h1]; exact li)] at q1
    rw [List.getElem?_append_left (by rw [h1]; exact lj)] at q2
    rw [List.getElem?_append_left (by rw [List.length_map, h2]; exact li), List.getElem?_map] at q3
    rw [List.getElem?_append_left (by rw [List.length_map, h2]; exact lj), List.getElem?_map] at q4
    have r3 : vs[i]? = some (.ref b) := by
      cases e : vs[i]? with
      | none => rw [e] at q3; cases q3
      | some v => rw [e] at q3; cases q3; rfl
    have r4 : vs[j]? = some (.ref b) := by
      cases e : vs[j]? with
      | none => rw [e] at q4; cases q4
      | some v => rw [e] at q4; cases q4; rfl
    rcases ent_at a q1 with ⟨_, _, _, z, _⟩ | ⟨_, _, _, _, z1, _⟩
    · cases z
    · rcases ent_at a q2 with ⟨_, _, _, z, _⟩ | ⟨_, _, _, _, z2, _⟩
      · cases z
      · exact own_apart a nd ne z1 z2 r3 r4
  bh := fun b h => (own_there a b h).1
/-- at the end of a def -/
theorem post_of {F H F' H' : Hp} {as : List R} {vs : List V} {ρ' : Rho} {σ' : St} {bs : List R} (a : ArgsOk K F H as vs) (r : Rel K ⟨F, H, ownA as vs, none⟩ F' ρ' σ' H') (o : outs 0 as ρ' = some bs) : Post K F H as vs F' H' bs where
  fz := r.sub0
  sub := r.sub
  grow := r.grow
  keep := r.prot
  own := fun i o1 h => by
    obtain ⟨b, o', j, h1, h2, h5, h6⟩ := outs_at a o h
    obtain ⟨ov, h3, h4⟩ := r.slot i _ h1
    obtain ⟨c, ho, e1, e2, e3, e4, e5⟩ := h4
    have e6 : (ownA as vs)[0 + j]? = some c := e5
    rw [Nat.zero_add, h6] at e6
    cases e6
    exact ⟨b, o', ho, h5, h2, e2, e3, e4⟩
  len := outs_len o
end
end Lt

/-! # A def's body and its promise; calls -/
namespace Lt
open PySem PySem.Spec L2

/-- the wish of a def's own body -/
abbrev WD (E : XK) : WX := fun cls d _ H => E cls d H
section
variable {P : Program} {w : World} {K : PySem.W.Frag} {mg : Str → Option Value} {base : Heap}
theorem fn_lt {x qual : Str} {st : Stmt} {f : Addr} {fd : FuncData} {N ps : List Str} {k : Nat} {fs : Fs} (Fd : Fun K x qual st f fd) (S : FnScope N ps (defScope st)) (hl : ∀ as, fs as ≠ .stuck → as.length = ps.length)
    (hb : ∃ g : Rho → Fl, (∀ (cdv : Value) (A : Around) (outer : List Env) (s : Shared) (H : Hp) (E : XK) (m : Fm), m.ex = none → Room k (A.deeper (PyProof.Rows.envOfC qual (defScope st) s.heap.objs.size f cdv)) →
        DB (cxOf (L2.CX P w) P w K mg base N qual (defScope st) f cdv A outer s H E) m (WD E) (defBody st) g) ∧
      ∀ as, fs as ≠ .stuck → Lt.fin as (g (rho0 N.length as)) = fs as) : FnOk P w K mg base (L2.CX P w) (k + 1) f fd ps (spF K fs) := by
  obtain ⟨g, hd, he⟩ := hb
  have hN : ps.length ≤ N.length := by
    have := congrArg List.length S.pre
    rw [List.length_take] at this
    omega
  refine Fd.okX S (fun vs H Q E h => ?_) fun cdv A outer s H vs Q E hr h => ?_
  · obtain ⟨F, as, _, ha, _, q⟩ := h
    rw [ha.len]
    refine hl as fun e => ?_
    rw [e] at q
    exact q
  · obtain ⟨F, as, s1, ha, nd, q⟩ := h
    have ns : fs as ≠ .stuck := fun e => by rw [e] at q; exact q
    have e := he as ns
    refine ⟨_, hd cdv A outer s H E ⟨F, H, ownA as vs, none⟩ rfl hr, F, rho0 N.length as, rel_start s1 ha nd (by rw [hl as ns]; exact hN), ?_⟩
    rw [← e] at q
    cases eg : g (rho0 N.length as) with
    | nx ρ' =>
      rw [eg] at q
      unfold Lt.fin at q
      dsimp only at q
      cases eo : outs 0 as ρ' with
      | none => rw [eo] at q; exact q.elim
      | some bs => rw [eo] at q; exact fun F' σ' H' r _ => q F' H' .non (post_of ha r eo) rfl
    | rt a ρ' =>
      rw [eg] at q
      unfold Lt.fin at q
      dsimp only at q
      cases eo : outs 0 as ρ' with
      | none => rw [eo] at q; exact q.elim
      | some bs =>
        rw [eo] at q
        refine fun F' σ' H' r _ v rv => q F' H' v (post_of ha r eo) ?_
        cases a with
        | val d => exact rv
        | own o => exact rv
    | exc C ns' ds ρ' =>
      rw [eg] at q
      unfold Lt.fin at q
      dsimp only at q
      cases eo : outs 0 as ρ' with
      | none => rw [eo] at q; exact q.elim
      | some bs => rw [eo] at q; exact fun F' σ' H' dd r _ x => q F' H' dd (post_of ha r eo) x
    | bk ρ' => rw [eg] at q; exact q.elim
    | ct ρ' => rw [eg] at q; exact q.elim
    | stuck => rw [eg] at q; exact q.elim
def finP : Fl → ResP
  | .nx _ => .ok (.val .non)
  | .rt r _ => .ok r
  | .exc C ns ds _ => .exc C ns ds
  | _ => .stuck
theorem outs_vals : ∀ (k : Nat) (ds : List D) (ρ : Rho), outs k (ds.map R.val) ρ = some (ds.map R.val)
  | _, [], _ => rfl
  | k, d :: ds, ρ => by rw [List.map_cons, outs, outs_vals k ds ρ.tail]; rfl
theorem ent_vals : ∀ (k : Nat) (ds : List D), ent k (ds.map R.val) = ds.map S.val
  | _, [] => rfl
  | k, d :: ds => by rw [List.map_cons, ent, ent_vals k ds]; rfl
theorem fin_vals (ds : List D) (r : Fl) : Lt.fin (ds.map R.val) r = match finP r with
    | .ok r => .ok r (ds.map R.val)
    | .exc C ns xs => .exc C ns xs (ds.map R.val)
    | .stuck => .stuck := by
  cases r <;> simp only [Lt.fin, finP, outs_vals]
/-- a def that lends nothing -/
theorem fn_pure {x qual : Str} {st : Stmt} {f : Addr} {fd : FuncData} {N ps : List Str} {k : Nat} {fs : PFs} (Fd : Fun K x qual st f fd) (S : FnScope N ps (defScope st)) (hl : ∀ ds, fs ds ≠ .stuck → ds.length = ps.length)
    (hb : ∃ g : Rho → Fl, (∀ (cdv : Value) (A : Around) (outer : List Env) (s : Shared) (H : Hp) (E : XK) (m : Fm), m.ex = none → Room k (A.deeper (PyProof.Rows.envOfC qual (defScope st) s.heap.objs.size f cdv)) →
        DB (cxOf (L2.CX P w) P w K mg base N qual (defScope st) f cdv A outer s H E) m (WD E) (defBody st) g) ∧
      ∀ ds, fs ds ≠ .stuck → finP (g (ds.map Lt.S.val ++ List.replicate (N.length - ds.length) Lt.S.no)) = fs ds) : FnOk P w K mg base (L2.CX P w) (k + 1) f fd ps (spF K (pureF fs)) := by
  obtain ⟨g, hd, he⟩ := hb
  have un : ∀ as, pureF fs as ≠ .stuck → ∃ ds, as = ds.map R.val ∧ fs ds ≠ .stuck := fun as h => by
    unfold pureF at h
    cases e : vals as with
    | none => rw [e] at h; exact absurd rfl h
    | some ds =>
      rw [e] at h
      refine ⟨ds, vals_is e, fun z => ?_⟩
      dsimp only at h
      rw [z] at h
      exact h rfl
  refine fn_lt Fd S (fun as h => ?_) ⟨g, hd, fun as h => ?_⟩
  · obtain ⟨ds, e, h2⟩ := un as h
    rw [e, List.length_map]
    exact hl ds h2
  · obtain ⟨ds, e, h2⟩ := un as h
    subst e
    unfold rho0 pureF
    rw [ent_vals, List.length_map, fin_vals, he ds h2, vals_map]
    first
      | done
      | (cases e : fs ds <;> simp [e])
end

/-! ### while -/
def whileN (t : Rho → Out Bool) (b : Rho → Fl) : Nat → Rho → Fl
  | 0, _ => .stuck
  | n + 1, ρ => (t ρ).fl fun k ρ1 => if k = true then match b ρ1 with
      | .nx ρ2 => whileN t b n ρ2
      | .ct ρ2 => whileN t b n ρ2
      | .bk ρ2 => .nx ρ2
      | r => r
    else .nx ρ1
theorem whileN_more {t : Rho → Out Bool} {b : Rho → Fl} : ∀ {n : Nat} {ρ : Rho} (k : Nat), whileN t b n ρ ≠ .stuck → whileN t b (n + k) ρ = whileN t b n ρ
  | 0, _, _, h => absurd rfl h
  | n + 1, ρ, k, h => by
    rw [Nat.add_right_comm]
    unfold whileN at h ⊢
    cases e : t ρ with
    | stuck => rfl
    | exc C ns ds ρ1 => rfl
    | ok c ρ1 =>
      rw [e] at h
      simp only [fl_ok] at h ⊢
      cases c with
      | false => rfl
      | true =>
        simp only [if_true] at h ⊢
        cases e2 : b ρ1 with
        | nx ρ2 => rw [e2] at h; exact whileN_more k h
        | ct ρ2 => rw [e2] at h; exact whileN_more k h
        | _ => rfl
open Classical in
noncomputable def sWhile (t : Rho → Out Bool) (b : Rho → Fl) : Rho → Fl := fun ρ => if h : ∃ n, whileN t b n ρ ≠ .stuck then whileN t b h.choose ρ else .stuck
theorem while_is {t : Rho → Out Bool} {b : Rho → Fl} {ρ : Rho} {r : Fl} (n : Nat) (h : whileN t b n ρ = r) (hr : r ≠ .stuck) : sWhile t b ρ = r := by
  have hx : ∃ n, whileN t b n ρ ≠ .stuck := ⟨n, by rw [h]; exact hr⟩
  unfold sWhile
  rw [dif_pos hx]
  have e1 := whileN_more (n := n) n.succ (by rw [h]; exact hr)
  rcases Nat.le_total n hx.choose with q | q
  · obtain ⟨k, e⟩ := Nat.exists_eq_add_of_le q
    rw [e, whileN_more k (by rw [h]; exact hr)]
    exact h
  · obtain ⟨k, e⟩ := Nat.exists_eq_add_of_le q
    rw [← whileN_more k hx.choose_spec, ← e]
    exact h
section
variable {X : Cx} {m : Fm} {W : WX}
theorem s_while {c : Expr} {body : List Stmt} {t : Rho → Out Bool} {b : Rho → Fl} {pos : Pos} (hp : PassesOwn (model X.prog X.w) X.A X.env X.xe) (hc : DT X m W c t) (hb : DB X m W body b) : DS X m W (.While c body [] pos) (sWhile t b) := PS.imp (ps_while hp hc hb) fun Dn σ H h => by
  obtain ⟨F, ρ, r, a⟩ := h
  let Rt : R → Rho → St → Hp → Hp → Prop := fun a _ _ F' H' => ∀ v, RepR X.K m F' H' a v → Dn.rt v H'
  have hx : ∃ n, whileN t b n ρ ≠ .stuck := Classical.byContradiction fun hx => by
    unfold sWhile at a
    rw [dif_neg hx] at a
    exact a
  have a1 : AftF X.K m W F (whileN t b hx.choose ρ) Dn Rt := by
    unfold sWhile at a
    rw [dif_pos hx] at a
    exact a
  refine ⟨fun n σ2 H2 => ∃ F2 ρ2, Rel X.K m F2 ρ2 σ2 H2 ∧ AftF X.K m W F2 (whileN t b n ρ2) Dn Rt, ⟨_, F, ρ, r, a1⟩, ?_⟩
  rintro n σ2 H2 ⟨F2, ρ2, r2, a2⟩
  cases n with
  | zero => exact a2.elim
  | succ n =>
    unfold whileN at a2
    refine ⟨F2, ρ2, r2, (Aft.fl a2).imp fun k ρ3 F3 H3 r3 s3 a3 => ?_⟩
    cases k with
    | false => exact a3 F3 σ2 H3 r3 (Same.refl _)
    | true =>
      rw [if_pos rfl] at a3
      rw [if_pos rfl]
      refine ⟨fun σ' H' => ∃ F2 ρ2, Rel X.K m F2 ρ2 σ' H' ∧ AftF X.K m W F2 (whileN t b n ρ2) Dn Rt, fun σ' H' q => ⟨n, Nat.lt_succ_self n, q⟩, F3, ρ3, r3, ?_⟩
      cases e : b ρ3 with
      | nx ρ4 => rw [e] at a3; exact fun F' σ' H' r' s' => ⟨F', ρ4, r', a3.weak s'⟩
      | ct ρ4 => rw [e] at a3; exact fun F' σ' H' r' s' => ⟨F', ρ4, r', a3.weak s'⟩
      | bk ρ4 => rw [e] at a3; exact a3
      | rt v ρ4 => rw [e] at a3; exact a3
      | exc C ns xs ρ4 => rw [e] at a3; exact a3
      | stuck => rw [e] at a3; exact a3
end

/-! ### calls -/
theorem takes_w0 {X : Cx} : Takes X W0 := fun _ _ x => by
  obtain ⟨_, _, _, _, _, _, _, _, _, _, _, _, _, _, _, _, z⟩ := x
  exact z.elim
/-- behind a call nothing of the caller's has changed but what was lent -/
theorem Rel.called {K : PySem.W.Frag} {m : Fm} {F H F' H' : Hp} {ρ : Rho} {σ : St} (r : Rel K m F ρ σ H) {ds : List D} {vs : List V} {bs : List R} (p : Post K F H (ds.map R.val) vs F' H' bs) : Rel K m F' ρ σ H' := by
  have no : ∀ (ds : List D) (vs : List V), ownA (ds.map R.val) vs = [] := by
    intro ds
    induction ds with
    | nil => intro vs; cases vs <;> rfl
    | cons d ds ih => intro vs; cases vs with
      | nil => rfl
      | cons v vs => exact ih vs
  exact r.grown p.fz p.sub (fun b o h => p.keep b o h (by rw [no]; simp)) p.grow
theorem args_vals {K : PySem.W.Frag} {F H : Hp} : ∀ {ds : List D} {vs : List V}, Reps K F ds vs → ArgsOk K F H (ds.map R.val) vs
  | [], _, h => h
  | _ :: _, _, ⟨x, r, h1, h2, h3⟩ => ⟨x, r, h1, h2, args_vals h3⟩
theorem own_vals : ∀ (ds : List D) (vs : List V), ownA (ds.map R.val) vs = [] := by
  intro ds
  induction ds with
  | nil => intro vs; cases vs <;> rfl
  | cons d ds ih => intro vs; cases vs with
    | nil => rfl
    | cons v vs => exact ih vs
/-- a call whose answer is data -/
def eFn (fs : PFs) (gs : Rho → Out (List D)) : Rho → Out D := fun ρ => (gs ρ).bind fun ds ρ1 => match fs ds with
  | .ok (.val d) => .ok d ρ1
  | .exc C ns xs => .exc C ns xs ρ1
  | _ => .stuck
section
variable {X : Cx} {m : Fm} {W : WX}
theorem promise_of {fs : PFs} {gs : Rho → Out (List D)} {σ : St} {H : Hp} {Q : VK} (h : tD X.K m W (eFn fs gs) σ H Q) : tCallS (spF X.K (pureF fs)) (WE W) (tL X.K m W gs) σ H Q := by
  obtain ⟨F, ρ, r, a⟩ := h
  refine ⟨F, ρ, r, (Aft.bind a).imp fun ds ρ1 F1 H1 r1 s1 a1 vs rvs => ?_⟩
  refine ⟨F1, ds.map R.val, r1.sub, args_vals rvs, by rw [own_vals]; exact List.nodup_nil, ?_⟩
  unfold pureF
  rw [vals_map]
  dsimp only
  cases e : fs ds with
  | stuck => rw [e] at a1; exact a1
  | ok rr =>
    rw [e] at a1
    cases rr with
    | val d => exact fun F' H' v p rv => a1 F' H' (r1.called p) p.fz v rv
    | own o => exact a1.elim
  | exc C ns xs =>
    rw [e] at a1
    exact fun F' H' dd p x => a1 F' H' dd (r1.called p) p.fz (x.he fun _ n => r1.he_none n)
theorem d_call {k : Nat} {f : Addr} {fd : FuncData} {ps : List Str} {fs : PFs} {x : Str} {e : Expr} {es : List Expr} {gs : Rho → Out (List D)} {p pos : Pos} (Fn : FnOk X.prog X.w X.K X.mg X.base (L2.CX X.prog X.w) k f fd ps (spF X.K (pureF fs))) (hr : Room k X.A) (hg : Gl X x) (hm : X.mg x = some (.ref f)) (hk : PySem.W.keepIn X.K (.ref f) = true)
    (hb : Binds X.K fd ps []) (tk : Takes X W) (ha : DL X m W (e :: es) gs) (hdb : (x == ("__debug__" : Str)) = false := by decide) (he : starEach (e :: es) X.env = (false, eval e X.env) :: starEach es X.env := by rfl) (hpl : (backTo pos (starEach es X.env)).any (·.1) = false := by rfl) :
    DE X m W (.Call (.Name x p) (e :: es) [] pos) (eFn fs gs) :=
  PE.imp (pe_callS Fn hr hg hm hk hb (fun σ => passAt tk σ) ha hdb he hpl) fun _ _ _ => promise_of
end

/-! ### fields of frozen instances -/
def fldOf (f : Str) : List Str → List D → Option D
  | n :: ns, d :: ds => if f == n then some d else fldOf f ns ds
  | _, _ => none
def fldD (C : Addr) (f : Str) : D → Option D
  | .ins C' ns ds => if C' = C then fldOf f ns ds else none
  | _ => none
theorem lookup_rep {K : PySem.W.Frag} {F : Hp} {f : Str} : ∀ {gs : List (Str × V)} {ds : List D} {d : D}, Reps K F ds (gs.map (·.2)) → fldOf f (gs.map (·.1)) ds = some d → ∃ v, gs.lookup f = some v ∧ Rep K F d v
  | [], ds, d, _, h => by cases ds <;> cases h
  | (n, v) :: gs, ds, d, h, e => by
    cases ds with
    | nil => cases e
    | cons d0 ds =>
      obtain ⟨x, r, e1, h1, h2⟩ := (show ∃ x r, v :: gs.map (·.2) = x :: r ∧ Rep K F d0 x ∧ Reps K F ds r from h)
      cases e1
      have e' : (if f == n then some d0 else fldOf f (gs.map (·.1)) ds) = some d := e
      rw [List.lookup_cons]
      cases hb : f == n with
      | true => rw [hb] at e'; cases e'; exact ⟨v, rfl, h1⟩
      | false => rw [hb] at e'; exact lookup_rep h2 e'
section
variable {X : Cx} {m : Fm} {W : WX}
theorem d_fld {C : Addr} {e : Expr} {f : Str} {g : Rho → Out D} {pos : Pos} (c : Cls X.K C) (n : NoAttr X.K C f) (he : DE X m W e g) (hb : attributeBase e f X.env (eval e X.env) = eval e X.env := by rfl) : DE X m W (.Attribute e f pos) (eUn (fldD C f) g) := by
  refine PE.imp (pe_fld he hb) fun σ H Q q => ?_
  obtain ⟨F, ρ, r, a⟩ := q
  refine ⟨F, ρ, r, (Aft.bind a).imp fun d ρ1 F1 H1 r1 s1 a1 v rv => ?_⟩
  obtain ⟨z, e, q⟩ := Aft.lift a1
  unfold fldD at e
  split at e
  · rename_i C' ns ds
    split at e
    · rename_i hC
      subst hC
      obtain ⟨p, dx, gs, rfl, h1, h2, h3⟩ := rv
      subst h2
      obtain ⟨y, l, ry⟩ := lookup_rep h3 e
      exact ⟨p, _, dx, gs, y, rfl, r1.sub _ _ h1, c, n, l, q F1 H1 r1 (Same.refl _) _ ry⟩
    · cases e
  · cases e
end
end Lt

/-! # sum of a tuple, t[::-1], what a def is called by -/
namespace Lt
open PySem PySem.Spec L2

/-! ### sum(t), t a tuple of ints -/
section
variable {X : Cx}
def rSumT (K : PySem.W.Frag) : List V → Hp → VK → Prop := fun vs H Q => ∃ (a : Addr) (ns : List Int), vs = [V.ref a] ∧ SqT K H a (ns.map V.int) ∧ Q (.int ns.sum) H
theorem cr_sumT (hc : X.calm = true) : CallR X (.builtin "sum") (rSumT X.K) := by
  intro pins s σ H vs us Q I r h
  obtain ⟨a, ns, rfl, hs, q⟩ := h
  obtain ⟨its, rv, ht, _⟩ := I.tuple hs
  rw [Vals.ref1 r]
  have hi := rv.ints
  obtain ⟨xs, e⟩ := hi.allInts.items
  have hn : PySem.numsOf (PySem.intItems xs).toList = ns := by rw [← e]; exact hi.numsOf
  rw [PySem.nums_intItems] at hn
  rw [e] at ht
  have ht' : s.heap.IsTuple a (PySem.intItems xs) := ht
  have hlt : a < s.heap.objs.size := by obtain ⟨_, e2, _⟩ := ht'; exact Heap.lt_size e2
  refine PySem.call_sum_walkG (PySem.wpAny_pyIter_tuple ht' ?_)
  refine ⟨s.heap.objs.size, [s.heap.objs.size, a], [s.heap.objs.size], _, _, _, PySem.numAt xs, rfl, PySem.Walks.tuple (A := X.A.in1) (I.ok.hd hc) _ a (Nat.ne_of_lt hlt) (PySem.intItems xs), ⟨⟨_, Heap.get?_push_size _ rfl, rfl, rfl⟩, ht'.push _⟩, fun b hb => ?_, (fun _ _ => PySem.intItems_at), fun h' tk t' hk => ?_⟩
  · show b < (s.heap.push _).objs.size
    rw [Heap.size_push]
    have e3 : b = s.heap.objs.size ∨ b = a := by simpa using hb
    rcases e3 with z | z
    · rw [z]; exact Nat.lt_succ_self _
    · rw [z]; exact Nat.lt_succ_of_lt hlt
  · have kept : ∀ b o, s.heap.get? b = some o → h'.get? b = some o := fun b o e2 => hk b o (fun hm => by
      have z : b = s.heap.objs.size := by simpa using hm
      have y := Heap.lt_size e2
      rw [z] at y
      exact Nat.lt_irrefl _ y) (Heap.get?_push_of_some _ e2)
    have hsum : PySem.preSum (PySem.numAt xs) (PySem.intItems xs).size = ns.sum := by
      rw [PySem.preSum_eq, hn, List.take_of_length_le]
      rw [← hn]
      simp [PySem.intItems]
    rw [hsum]
    exact ⟨.int _, H, I.kept kept, ⟨_, rfl⟩, q⟩
end
/-- sum of a list or a tuple -/
def sumA : List D → Option D
  | [.lst ds] => (asInts ds).map fun ns => .int ns.sum
  | [.tup ds] => (asInts ds).map fun ns => .int ns.sum
  | _ => none
theorem cr_sumA {X : Cx} (hc : X.calm = true) : CallR X (.builtin "sum") (fun vs H Q => rSum X.K vs H Q ∨ rSumT X.K vs H Q) := CallR.or' (cr_sum hc) (cr_sumT hc)
theorem cd_sumA {K : PySem.W.Frag} {m : Fm} {W : WX} : CallD K m W sumA (fun vs H Q => rSum K vs H Q ∨ rSumT K vs H Q) := by
  intro F ρ σ H as xs Q r ha h
  obtain ⟨d, hd, h9⟩ := Aft.lift h
  clear h
  unfold sumA at hd
  split at hd <;> try cases hd
  · obtain ⟨ns, e, rfl⟩ := Option.map_eq_some_iff.mp hd
    obtain ⟨x, rfl, q⟩ := ha.one'
    obtain ⟨p, vs, rfl, h1, h2⟩ := r.lstOf q
    have e1 := asInts_is e
    subst e1
    have e2 := h2.ints
    subst e2
    exact .inl ⟨p, ns, rfl, SqL.of h1, h9 F H r (Same.refl _) _ rfl⟩
  · obtain ⟨ns, e, rfl⟩ := Option.map_eq_some_iff.mp hd
    obtain ⟨x, rfl, q⟩ := ha.one'
    obtain ⟨p, vs, rfl, h1, h2⟩ := r.tupOf q
    have e1 := asInts_is e
    subst e1
    have e2 := h2.ints
    subst e2
    exact .inr ⟨p, ns, rfl, h1, h9 F H r (Same.refl _) _ rfl⟩

/-! ### t[::-1] of a tuple, a list -/
section
variable {prog : Program} {w : World} {A : Around} {E : Value → Shared → Prop} {s : Shared}
theorem part_is {v : Value} {o : Option Int} {Q : Option Int → Shared → Prop} (p : IsPart v o) (h : Q o s) : wpAny (model prog w) A (Builtin.Slice.slicePartIndex v) Q E s := HT.slicePart_ p h
theorem rev_pick (xs : Array Value) : ((List.range xs.size).filterMap fun (m : Nat) => xs[(((xs.size : Int) - 1) + (m : Int) * (-1)).toNat]?).toArray = xs.toList.reverse.toArray := by
  have cg : ∀ (l : List Nat), (∀ k ∈ l, k < xs.size) → (l.filterMap fun (m : Nat) => xs[(((xs.size : Int) - 1) + (m : Int) * (-1)).toNat]?) = (l.map fun k => xs.size - 1 - k).filterMap (xs[·]?) := by
    intro l
    induction l with
    | nil => intro _; rfl
    | cons k l ih =>
      intro hl
      have hk := hl k List.mem_cons_self
      have e2 : (((xs.size : Int) - 1) + (k : Int) * (-1)).toNat = xs.size - 1 - k := by omega
      rw [List.filterMap_cons, List.map_cons, List.filterMap_cons, ih fun j hj => hl j (List.mem_cons_of_mem _ hj), e2]
  have e := cg (List.range xs.size) fun k hk => List.mem_range.mp hk
  rw [e, PySem.W.krv_range, List.filterMap_reverse, PySem.W.krv_all]
theorem tup_rev {t sl : Addr} {items : Array Value} {vs : Value} {Q : Value → Shared → Prop} (ht : PyProof.Rows.IsTup s.heap t items) (hs : s.heap.IsSliceOf sl .none .none vs) (pv : IsPart vs (some (-1)))
    (h : Q (.ref s.heap.objs.size) { s with heap := s.heap.push { cls := .type "tuple", data := .seq items.toList.reverse.toArray } }) (hsz : items.size ≤ sizeLine) : wpAny (model prog w) A (getItem (.ref t) (.ref sl)) Q E s := by
  have hfit : sizeOk (.seq items.toList.reverse.toArray) := by
    show items.toList.reverse.toArray.size ≤ sizeLine
    rw [List.size_toArray, List.length_reverse, Array.length_toList]
    exact hsz
  obtain ⟨ob, e1, e2, e3⟩ := id hs
  have hT : s.TypeIs (.ref sl) "slice" := ⟨ob, e1, e2⟩
  unfold getItem
  try with_reducible refine wpAny_holding ?_
  first | refine wpAny_bind (wpAny_pure ?_) | skip
  refine wpAny_bind (wpAny_sequenceKey ht.typeIs (by decide) ?_)
  refine wpAny_bind (wpAny_callSpecial?_slot (name := Str.ofString "__getitem__") ht.typeIs PyProof.Rows.slot_tuple_getitem (wpAny_call_entry PyProof.Rows.slot_tuple_getitem ht.typeIs PyProof.Rows.entry_tuple_getitem ?_ (PyProof.Rows.args_tuple_getitem _ _)))
  show wpAny _ _ (Builtin.Tuple.tupleItemsOf (.ref t) >>= _) _ _ s
  refine wpAny_bind (PyProof.Rows.tupleItemsOf_ ht ?_)
  refine wpAny_bind (wpAny_typeOf hT ?_)
  rw [if_pos (by decide)]
  refine wpAny_bind ?_
  have go : ∀ {A' : Around} {Q' : Int × Int × Nat → Shared → Prop}, Q' ((items.size : Int) - 1, -1, items.size) s → wpAny (model prog w) A' (Builtin.Slice.sliceApplied (.ref sl) (pure (items.size : Int))) Q' E s := by
    intro A' Q' q
    unfold Builtin.Slice.sliceApplied Builtin.Slice.sliceFields
    refine wpAny_bind (wpAny_bind (wpAny_field e1 e3 (x := .none) rfl (wpAny_bind (wpAny_field e1 e3 (x := .none) rfl (wpAny_bind (wpAny_field e1 e3 (x := vs) rfl (wpAny_pure ?_)))))))
    refine wpAny_bind (part_is pv ?_)
    show wpAny _ _ (if ((-1 : Int) == 0) = true then _ else _) _ _ s
    rw [if_neg (by decide)]
    refine wpAny_bind (part_is .none (wpAny_bind (part_is .none (wpAny_bind (wpAny_pure ?_)))))
    have ad : Builtin.Slice.sliceAdjust none none (-1) (items.size : Int) = ((items.size : Int) - 1, -1) := by
      unfold Builtin.Slice.sliceAdjust
      simp
    have pl : Builtin.Slice.slicePlaces ((items.size : Int) - 1) (-1) (-1) = items.size := by
      unfold Builtin.Slice.slicePlaces
      have h1 : ¬ ((-1 : Int) > 0) := by decide
      simp only [h1, if_false]
      split <;> (try simp only [Int.neg_neg, Int.ediv_one]) <;> omega
    show wpAny _ _ (match Builtin.Slice.sliceAdjust none none (-1) (items.size : Int) with | (lo, hi) => pure (lo, (-1 : Int), Builtin.Slice.slicePlaces lo hi (-1))) _ _ s
    rw [ad]
    show wpAny _ _ (pure ((items.size : Int) - 1, (-1 : Int), Builtin.Slice.slicePlaces ((items.size : Int) - 1) (-1) (-1))) _ _ s
    rw [pl]
    exact wpAny_pure q
  refine go ?_
  show wpAny _ _ (if ((items.size : Int) - 1 == 0 && (-1 : Int) == 1 && items.size == items.size) = true then _ else _) _ _ s
  rw [if_neg (by simp), rev_pick]
  first
    | exact wpAny_bind (m := Builtin.Tuple.tupleExact _) (wpAny_newObj_type (wpAny_pure ⟨_, rfl, wpAny_pure h⟩) hfit)
    | exact wpAny_bind (m := Builtin.Tuple.tupleExact _) (wpAny_newObj_type (wpAny_bind (wpAny_pure (wpAny_pure ⟨_, rfl, wpAny_pure h⟩))) hfit)
    | exact wpAny_bind (wpAny_bind (m := Builtin.Tuple.tupleExact _) (wpAny_newObj_type (wpAny_pure (wpAny_pure ⟨_, rfl, wpAny_pure h⟩)) hfit))
    | exact wpAny_bind (wpAny_bind (m := Builtin.Tuple.tupleExact _) (wpAny_newObj_type (wpAny_pure ⟨_, rfl, wpAny_pure h⟩) hfit))
end
def rRevA (K : PySem.W.Frag) (x : V) (H : Hp) (Q : VK) : Prop := (∃ a xs, x = .ref a ∧ SqL K H a xs ∧ ∀ p, H p = none → Q (.ref p) (upd H p (.lst xs.reverse))) ∨ ∃ a xs, x = .ref a ∧ SqT K H a xs ∧ ∀ p, H p = none → Q (.ref p) (upd H p (.tup xs.reverse))
section
variable {X : Cx}
theorem pe_revA {e : Expr} {te : TE} {k : Nat} {p1 p2 p3 pos : Pos} (he : PE X e te) : PE X (.Subscript e (.Slice none none (some (.UnaryOp .USub (.Constant (.int 1) k p1) p2)) p3) pos) (fun σ H Q => te σ H fun x H1 => rRevA X.K x H1 Q) := by
  refine ⟨fun pins s σ H Q I h => ?_⟩
  refine PyProof.Rows.Subscript_ (thn (he.run pins s σ H _ I h) fun v s1 ⟨x, H1, I1, rx, q⟩ => ?_)
  have step : PO X (some (.UnaryOp .USub (.Constant (.int 1) k p1) p2)) (tPart (tUn (rU fun i => .int (-i)) (tC (.int 1)))) := po_some (pe_un un_neg pe_int)
  refine wpAny_Slice (thn (po_none.run pins s1 σ H1 (fun o H2 => o = none ∧ H2 = H1) I1 ⟨rfl, rfl⟩) fun v1 s2 ⟨o1, H2, I2, g1, z1, z2⟩ => ?_)
  subst z1 z2
  refine thn (po_none.run pins s2 σ H2 (fun o H3 => o = none ∧ H3 = H2) I2 ⟨rfl, rfl⟩) fun v2 s3 ⟨o2, H3, I3, g2, z1, z2⟩ => ?_
  subst z1 z2
  refine thn (step.run pins s3 σ H3 (fun o H4 => o = some (-1) ∧ H4 = H3) I3 ⟨1, rfl, -1, rfl, rfl, rfl⟩) fun v3 s4 ⟨o3, H4, I4, g3, z1, z2⟩ => ?_
  subst z1 z2
  have I5 : Inv X pins σ H4 { s4 with heap := s4.heap.push { cls := .type "slice", data := .fields #[v1, v2, v3] } } := I4.kept (t' := s4.toks) fun _ _ => Heap.get?_push_of_some _
  rcases q with ⟨a, xs, ex, hx, q⟩ | ⟨a, xs, ex, hx, q⟩
  · subst ex
    cases rx
    obtain ⟨its, rv, pl, hz⟩ := I5.list hx
    have hn := rv.length
    refine PyProof.Rows.tail_any (ops := [.ref a, .ref s4.heap.objs.size]) pl.isList.typeIs (PySem.slot_list_getitem.lookup) ?_ (by with_unfolding_all rfl)
    refine wpAny_getItem_list_slice pl.isList (Heap.IsSliceOf.new _ v1 v2 v3) g1 g2 g3 (by decide) ?_ (by rw [List.size_toArray]; omega)
    rw [PySem.W.krv_pick]
    exact ⟨.ref _, _, I5.laid (t' := s4.toks) (o := .lst xs.reverse) (fun _ _ => Heap.get?_push_of_some _) (Nat.le_refl _) ⟨by rw [List.length_reverse]; exact hz, _, 0, rv.reverse, Heap.get?_push_size _ rfl⟩, rfl, q _ (I5.hok.fresh (Nat.le_refl _))⟩
  · subst ex
    cases rx
    obtain ⟨its, rv, pt, hz⟩ := I5.tuple hx
    have hn := rv.length
    refine PyProof.Rows.tail_any (ops := [.ref a, .ref s4.heap.objs.size]) pt.typeIs (PyProof.Rows.slot_tuple_getitem.lookup) ?_ (by with_unfolding_all rfl)
    cases g1
    cases g2
    refine tup_rev pt (Heap.IsSliceOf.new _ _ _ v3) g3 ?_ (by rw [List.size_toArray]; omega)
    exact ⟨.ref _, _, I5.laid (t' := s4.toks) (o := .tup xs.reverse) (fun _ _ => Heap.get?_push_of_some _) (Nat.le_refl _) ⟨by rw [List.length_reverse]; exact hz, _, rv.reverse, PyProof.Rows.IsTup.new _ _⟩, rfl, q _ (I5.hok.fresh (Nat.le_refl _))⟩
end
def revD : D → Option D
  | .tup ds => some (.tup ds.reverse)
  | .lst ds => some (.lst ds.reverse)
  | _ => none
theorem d_rev {X : Cx} {m : Fm} {W : WX} {e : Expr} {g : Rho → Out D} {k : Nat} {p1 p2 p3 pos : Pos} (he : DE X m W e g) : DE X m W (.Subscript e (.Slice none none (some (.UnaryOp .USub (.Constant (.int 1) k p1) p2)) p3) pos) (eUn revD g) := by
  refine PE.imp (pe_revA he) fun σ H Q q => ?_
  obtain ⟨F, ρ, r, a⟩ := q
  refine ⟨F, ρ, r, (Aft.bind a).imp fun d ρ1 F1 H1 r1 s1 a1 v rv => ?_⟩
  obtain ⟨z, e, q⟩ := Aft.lift a1
  cases d <;> simp only [revD, reduceCtorEq] at e
  case tup ds =>
    cases e
    obtain ⟨p, vs, rfl, h1, h2⟩ := r1.tupOf rv
    exact .inr ⟨p, vs, rfl, h1, fun l nl => new_tup r1 q h2.reverse nl⟩
  case lst ds =>
    cases e
    obtain ⟨p, vs, rfl, h1, h2⟩ := r1.lstOf rv
    exact .inl ⟨p, vs, rfl, SqL.of h1, fun l nl => new_lst r1 q h2.reverse nl⟩

/-! ### what a def is called by -/
structure Cal (P : Program) (w : World) (K : PySem.W.Frag) (mg : Str → Option Value) (base : Heap) (x : Str) (k : Nat) (fs : Fs) : Prop where
  ex : ∃ (f : Addr) (fd : FuncData) (ps : List Str), mg x = some (.ref f) ∧ PySem.W.keepIn K (.ref f) = true ∧ Binds K fd ps [] ∧ FnOk P w K mg base (L2.CX P w) k f fd ps (spF K fs)
/-- a constant of the module -/
structure Gc (mg : Str → Option Value) (K : PySem.W.Frag) (x : Str) (d : D) : Prop where
  ex : ∃ v u, mg x = some u ∧ RelV v u ∧ ∀ F, Rep K F d v
section
variable {X : Cx} {m : Fm} {W : WX}
theorem d_callC {k j : Nat} {fs : PFs} {x : Str} {e : Expr} {es : List Expr} {gs : Rho → Out (List D)} {p pos : Pos} (c : Cal X.prog X.w X.K X.mg X.base x k (pureF fs)) (hr : Room j X.A) (tk : Takes X W) (ha : DL X m W (e :: es) gs) (hk : k ≤ j := by decide) (hg : Gl X x := by rfl)
    (hdb : (x == ("__debug__" : Str)) = false := by decide) (he : starEach (e :: es) X.env = (false, eval e X.env) :: starEach es X.env := by rfl) (hpl : (backTo pos (starEach es X.env)).any (·.1) = false := by rfl) :
    DE X m W (.Call (.Name x p) (e :: es) [] pos) (eFn fs gs) := by
  obtain ⟨f, fd, ps, h1, h2, h3, h4⟩ := c.ex
  exact d_call h4 (hr.mono hk) hg h1 h2 h3 tk ha hdb he hpl
theorem d_globC {x : Str} {d : D} {pos : Pos} (c : Gc X.mg X.K x d) (hg : Gl X x := by rfl) (hd : (x == ("__debug__" : Str)) = false := by decide) : DE X m W (.Name x pos) (eC d) := by
  obtain ⟨v, u, h1, h2, h3⟩ := c.ex
  exact d_glob hg h1 h2 h3 hd
theorem s_setLc {i : Nat} {y : Str} {py : Pos} {elt tg iter : Expr} {ifs : List Expr} {scope : Scope} {own : List (Str × Nat)} {pos spos : Pos} {gs : Rho → Out (List D)} {gt : D → Rho → Option Rho} {t : Rho → Out Bool} {ge : Rho → Out D} (hc : X.calm = true) (hN : X.N.Nodup) (hy : X.N[i]? = some y) (hyl : X.env.scope.names.lookup y = some .local)
    (hsw : swapsWith (.ListComp elt [⟨tg, iter, ifs, 0⟩] scope pos) (some (.Name y py)) spos.line X.env = pure true) (ok : BlkOk X.N X.env.scope scope own) (hi : DI X m W tg iter gs)
    (hg : ∀ (m : Fm) (s : Shared) (H : Hp) (C : Addr) (cl : List (Str × Addr)) (fp : List Addr), DGv (X.blk s H scope (compEnvC scope cl C X.env) fp) m (own.map (·.2)) tg gt) (ht : ∀ (m : Fm) (s : Shared) (H : Hp) (C : Addr) (cl : List (Str × Addr)) (fp : List Addr), DTs (X.blk s H scope (compEnvC scope cl C X.env) fp) m W0 ifs t)
    (he : ∀ (m : Fm) (s : Shared) (H : Hp) (C : Addr) (cl : List (Str × Addr)) (fp : List Addr), DE (X.blk s H scope (compEnvC scope cl C X.env) fp) m W0 elt ge) (hs : ∀ x, foldedSetIterable iter X.env x = pure x := by intro _; rfl) :
    DS X m W (.Assign [.Name y py] (.ListComp elt [⟨tg, iter, ifs, 0⟩] scope pos) spos) (sSet i (eLcQ (own.map (·.2)) gs gt t ge)) :=
  PS.imp (ps_setLc (g := fun v σ H Q => ∃ m, tGv X.K m (own.map (·.2)) gt v σ H Q) (tt := fun σ H Q => ∃ m, tBl X.K m W0 t σ H Q) (te := fun σ H Q => ∃ m, tD X.K m W0 ge σ H Q) hc hN hy hyl hsw hi ok
    (fun s H C cl fp => ⟨fun pins s' σ H' v u Q I r ⟨m, q⟩ => (hg m s H C cl fp).run pins s' σ H' v u Q I r q⟩) (fun s H C cl fp => ⟨fun pins s' σ H' Q I ⟨m, q⟩ => (ht m s H C cl fp).run pins s' σ H' Q I q⟩)
    (fun s H C cl fp => ⟨fun pins s' σ H' Q I ⟨m, q⟩ => (he m s H C cl fp).run pins s' σ H' Q I q⟩) hs) fun Dn σ H h => by
    obtain ⟨F, ρ, r, a⟩ := h
    refine lc_of (gs := gs) (gt := gt) (t := t) (ge := ge) (W := W) (m := m) (fun _ _ _ => id) (fun m _ _ _ _ q => ⟨m, q⟩) (fun m _ _ _ q => ⟨m, q⟩) (fun m _ _ _ q => ⟨m, q⟩) ⟨F, ρ, r, (Aft.fl a).imp fun d ρ1 F1 H1 r1 s1 a1 v rv => ?_⟩
    exact a1 F1 _ H1 (r1.store i ⟨v, rfl, rv⟩ fun _ _ _ _ _ z => by cases z) (Same.refl _)
end
end Lt

/-! # Objects that one name holds: made, stored, changed, lent, frozen -/
namespace Lt
open PySem PySem.Spec L2

section
variable {K : PySem.W.Frag} {m : Fm} {F H : Hp} {ρ : Rho} {σ : St}
theorem Rel.own_at (r : Rel K m F ρ σ H) {i : Nat} {b : Option Nat} {o : O} (h : ρ[i]? = some (.own b o)) : ∃ a ho, σ[i]? = some (some (.ref a)) ∧ H a = some ho ∧ RepO K F o ho ∧ F a = none ∧ BorIs m b a := by
  obtain ⟨ov, h1, a, ho, e1, e2, e3, e4, e5⟩ := r.slot i _ h
  subst e1
  exact ⟨a, ho, h1, e2, e3, e4, e5⟩
/-- a name's object changes -/
theorem Rel.mutate (r : Rel K m F ρ σ H) {i : Nat} {b : Option Nat} {o o' : O} {a : Addr} {ho' : HO} (h : ρ[i]? = some (.own b o)) (ha : σ[i]? = some (some (.ref a))) (h' : RepO K F o' ho') : Rel K m F (ρ.set i (.own b o')) σ (upd H a ho') := by
  obtain ⟨a1, ho, q1, q2, q3, q4, q5⟩ := r.own_at h
  rw [ha] at q1
  cases q1
  have hi : i < ρ.length := (List.getElem?_eq_some_iff.mp h).1
  have nF : ∀ c, F c ≠ none → c ≠ a := fun c n e => n (by rw [e]; exact q4)
  refine ⟨r.sub0, fun c u e => ?_, fun c u e n => ?_, r.grow, fun c hc => ?_, by rw [List.length_set]; exact r.len, fun j s e => ?_, fun j k c b1 o1 b2 o2 ne e1 e2 e3 e4 => ?_, r.bh⟩
  · rw [upd_ne (nF c (by rw [e]; simp))]; exact r.sub c u e
  · have na : c ≠ a := fun z => by
      subst z
      cases b with
      | none => have q6 : m.He c = none := q5; rw [e] at q6; cases q6
      | some k => exact n (List.mem_of_getElem? q5)
    rw [upd_ne na]
    exact r.prot c u e n
  · obtain ⟨h1, h2⟩ := r.bor c hc
    refine ⟨?_, h2⟩
    by_cases z : c = a
    · subst z; rw [upd_same]; simp
    · rw [upd_ne z]; exact h1
  · by_cases z : j = i
    · subst z
      rw [List.getElem?_set_self hi] at e
      cases e
      exact ⟨_, ha, a, ho', rfl, upd_same, h', q4, q5⟩
    · rw [List.getElem?_set_ne (Ne.symm z)] at e
      obtain ⟨ov, h1, h2⟩ := r.slot j s e
      refine ⟨ov, h1, ?_⟩
      cases s with
      | no => trivial
      | exn _ _ => exact h2
      | val d => exact h2
      | own b1 o1 =>
        obtain ⟨c, hc, p1, p2, p3, p4, p5⟩ := h2
        refine ⟨c, hc, p1, ?_, p3, p4, p5⟩
        rw [upd_ne (fun w => by subst w; subst p1; exact r.dist j i c b1 o1 b o z e h h1 ha)]
        exact p2
  · have back : ∀ {j : Nat} {b1 : Option Nat} {o1 : O}, (ρ.set i (.own b o'))[j]? = some (.own b1 o1) → ∃ b2 o2, ρ[j]? = some (.own b2 o2) := fun {j b1 o1} e => by
      by_cases z : j = i
      · subst z; exact ⟨b, o, h⟩
      · rw [List.getElem?_set_ne (Ne.symm z)] at e; exact ⟨_, _, e⟩
    obtain ⟨b1', o1', f1⟩ := back e1
    obtain ⟨b2', o2', f2⟩ := back e2
    exact r.dist j k c _ _ _ _ ne f1 f2 e3 e4
theorem Rel.storeO (r : Rel K m F ρ σ H) (i : Nat) {p : Addr} {ho : HO} {o : O} (a : Aside m F ρ σ H p ho) (q : RepO K F o ho) : Rel K m F (ρ.set i (.own none o)) (σ.set i (some (.ref p))) H :=
  r.store i ⟨p, ho, rfl, a.at_, q, a.fz, a.he⟩ fun _ _ j b' o' _ _ h1 h2 => a.ns j b' o' h1 h2
end

/-! ### answers that are new objects -/
def tO (K : PySem.W.Frag) (m : Fm) (W : WX) (g : Rho → Out O) : TE := fun σ H Q => tX K m W g (fun o ρ' F' H' => ∀ p ho, Aside m F' ρ' σ H' p ho → RepO K F' o ho → Q (.ref p) H') σ H
abbrev DEO (X : Cx) (m : Fm) (W : WX) (e : Expr) (g : Rho → Out O) : Prop := PE X e (tO X.K m W g)
def oLst (gs : Rho → Out (List D)) : Rho → Out O := fun ρ => (gs ρ).bind fun ds ρ1 => lift (if ds.length ≤ sizeLine then some (O.lst ds) else none) ρ1
def oFn (f : List D → Option D) (gs : Rho → Out (List D)) : Rho → Out O := fun ρ => (gs ρ).bind fun ds ρ1 => match f ds with
  | some (.lst xs) => .ok (.lst xs) ρ1
  | _ => .stuck
def sSetO (i : Nat) (g : Rho → Out O) : Rho → Fl := fun ρ => (g ρ).fl fun o ρ1 => .nx (ρ1.set i (.own none o))
def sRetO (i : Nat) : Rho → Fl := fun ρ => match ρ[i]? with
  | some (.own none o) => .rt (.own o) ρ
  | _ => .stuck
def frz : O → Option D
  | .lst ds => some (.lst ds)
  | .ins C fs => some (.ins C (fs.map (·.1)) (fs.map (·.2)))
  | _ => none
def eFrz (g : Rho → Out O) : Rho → Out D := fun ρ => (g ρ).bind fun o ρ1 => lift (frz o) ρ1
theorem frz_rep {K : PySem.W.Frag} {F : Hp} {o : O} {d : D} {p : Addr} {ho : HO} (n : F p = none) (e : frz o = some d) (q : RepO K F o ho) : Rep K (upd F p ho) d (.ref p) := by
  have s : Same F (upd F p ho) := fun b u h => by rw [upd_ne (ne_of_none h n)]; exact h
  cases o <;> simp only [frz, reduceCtorEq] at e
  · cases e
    obtain ⟨xs, rfl, h⟩ := q
    exact ⟨p, xs, rfl, upd_same, Reps.mono s _ _ h⟩
  · cases e
    obtain ⟨dx, gs, rfl, h⟩ := q
    obtain ⟨h1, h2⟩ := (h.mono s).reps
    exact ⟨p, dx, gs, rfl, upd_same, h1, h2⟩
section
variable {X : Cx} {m : Fm} {W : WX}
theorem d_frz {e : Expr} {g : Rho → Out O} (h : DEO X m W e g) : DE X m W e (eFrz g) := PE.imp h fun σ H Q q => by
  obtain ⟨F, ρ, r, a⟩ := q
  refine ⟨F, ρ, r, (Aft.bind a).imp fun o ρ1 F1 H1 r1 s1 a1 p ho as ro => ?_⟩
  obtain ⟨d, e, q⟩ := Aft.lift a1
  obtain ⟨r2, s2⟩ := r1.freeze as
  exact q _ H1 r2 s2 _ (frz_rep as.fz e ro)
theorem o_lst {es : List Expr} {gs : Rho → Out (List D)} {pos : Pos} (h : DL X m W es gs) : DEO X m W (.List es pos) (oLst gs) := by
  refine PE.imp (pe_lst h) fun σ H Q q => ?_
  obtain ⟨F, ρ, r, a⟩ := q
  refine ⟨F, ρ, r, (Aft.bind a).imp fun ds ρ1 F1 H1 r1 s1 a1 vs rvs => ?_⟩
  obtain ⟨d, e, q⟩ := Aft.lift a1
  split at e <;> cases e
  rename_i hz
  refine ⟨by rw [rvs.len]; exact hz, fun p np => ?_⟩
  obtain ⟨r2, a2⟩ := r1.aside_new np (.lst vs)
  exact q F1 _ r2 (Same.refl _) p _ a2 ⟨vs, rfl, rvs⟩
/-- list(x) -/
theorem o_list {e : Expr} {es : List Expr} {gs : Rho → Out (List D)} {p pos : Pos} (hg : Gl X "list") (hm : X.mg "list" = none) (ha : DL X m W (e :: es) gs) (he : starEach (e :: es) X.env = (false, eval e X.env) :: starEach es X.env := by rfl) (hpl : (backTo pos (starEach es X.env)).any (·.1) = false := by rfl) :
    DEO X m W (.Call (.Name "list" p) (e :: es) [] pos) (oFn listD gs) := PE.imp (pe_callTy call_list_of hg hm (by decide +kernel) ha (by decide) (by decide) he hpl) fun σ H Q h => by
  obtain ⟨F, ρ, rl, a⟩ := h
  refine ⟨F, ρ, rl, (Aft.bind a).imp fun ds ρ1 F1 H1 r1 s1 a1 vs rvs => ?_⟩
  unfold listD at a1
  split at a1
  · rename_i xs e
    split at e <;> cases e
    · obtain ⟨x, rfl, q⟩ := rvs.one'
      obtain ⟨p, ws, rfl, h1, h2⟩ := r1.tupOf q
      refine ⟨_, _, rfl, .inr h1, fun l nl => ?_⟩
      obtain ⟨r2, a2⟩ := r1.aside_new nl (.lst ws)
      exact a1 F1 _ r2 (Same.refl _) l _ a2 ⟨ws, rfl, h2⟩
    · obtain ⟨x, rfl, q⟩ := rvs.one'
      obtain ⟨p, ws, rfl, h1, h2⟩ := r1.lstOf q
      refine ⟨_, _, rfl, .inl (SqL.of h1), fun l nl => ?_⟩
      obtain ⟨r2, a2⟩ := r1.aside_new nl (.lst ws)
      exact a1 F1 _ r2 (Same.refl _) l _ a2 ⟨ws, rfl, h2⟩
  · exact a1.elim
/-- [a, ..] * n -/
def oRep (ga gb : Rho → Out D) : Rho → Out O := fun ρ => (ga ρ).bind fun a ρ1 => (gb ρ1).bind fun b ρ2 => match a, b with
  | .lst xs, .int k => if -(2 ^ 62) ≤ k ∧ k < 2 ^ 62 ∧ xs.length * k.toNat ≤ sizeLine then .ok (.lst (List.replicate k.toNat xs).flatten) ρ2 else .stuck
  | _, _ => .stuck
theorem o_rep {a b : Expr} {ga gb : Rho → Out D} {pos : Pos} (ha : DE X m W a ga) (hb : DE X m W b gb) : DEO X m W (.BinOp a .Mult b pos) (oRep ga gb) := PE.imp (pe_op op_rep ha hb) fun σ H Q h => by
  obtain ⟨F, ρ, rl, a⟩ := h
  refine ⟨F, ρ, rl, (Aft.bind a).imp fun d ρ1 F1 H1 r1 s1 a1 v rv => ?_⟩
  refine ⟨F1, ρ1, r1, (Aft.bind a1).imp fun e ρ2 F2 H2 r2 s2 a2 y ry => ?_⟩
  split at a2
  · rename_i xs k
    split at a2
    · rename_i hz
      obtain ⟨p, vs, rfl, h1, h2⟩ := r2.lstOf (Rep.mono s2 _ _ rv)
      refine ⟨p, k, vs, rfl, ry, h1, by omega, by omega, by rw [h2.len]; exact hz.2.2, fun l nl => ?_⟩
      obtain ⟨r3, a3⟩ := r2.aside_new nl (.lst (List.replicate k.toNat vs).flatten)
      exact a2 F2 _ r3 (Same.refl _) l _ a3 ⟨_, rfl, reps_rep h2 _⟩
    · exact a2.elim
  · exact a2.elim
theorem s_setO {i : Nat} {x : Str} {e : Expr} {g : Rho → Out O} {pos pos' : Pos} (hN : X.N.Nodup) (hi : X.N[i]? = some x) (hx : Loc X.env.scope x) (he : DEO X m W e g) (hs : swapsWith e (some (.Name x pos')) pos.line X.env = pure false := by rfl)
    (hf : X.fn x = true ∨ X.env.scope.names.lookup x = some .local := by first | exact .inl rfl | exact .inr rfl | assumption) : DS X m W (.Assign [.Name x pos'] e pos) (sSetO i g) := PS.imp (ps_set hN hi hx he hs hf) fun Dn σ H h => by
  obtain ⟨F, ρ, r, a⟩ := h
  refine ⟨F, ρ, r, (Aft.fl a).imp fun o ρ1 F1 H1 r1 s1 a1 p ho as ro => a1 F1 _ H1 (r1.storeO i as ro) (Same.refl _)⟩
theorem s_retO (i : Nat) {x : Str} {p pos : Pos} (hN : X.N[i]? = some x := by rfl) (hv : Vis X.env.scope x := by first | exact Or.inl rfl | exact Or.inr (Or.inl rfl) | exact Or.inr (Or.inr rfl)) (hd : (x == ("__debug__" : Str)) = false := by decide) (hcd : (x == ("__classdict__" : Str)) = false := by decide) : DS X m W (.Return (some (.Name x p)) pos) (sRetO i) := PS.imp (ps_ret (pv i hN hv hd hcd)) fun Dn σ H h => by
  obtain ⟨F, ρ, r, a⟩ := h
  unfold sRetO at a
  split at a
  · rename_i o e
    obtain ⟨c, ho, q1, q2, q3, q4, q5⟩ := r.own_at e
    exact ⟨_, q1, a F σ H r (Same.refl _) _ ⟨c, ho, rfl, q2, q3, q4, q5⟩⟩
  · exact a.elim
end

/-! ### frozen by the way -/
def frzS (i : Nat) (ρ : Rho) : Rho := match ρ[i]? with
  | some (.own none o) => match frz o with
    | some d => ρ.set i (.val d)
    | none => ρ
  | _ => ρ
theorem Rel.frzS {K : PySem.W.Frag} {m : Fm} {F H : Hp} {ρ : Rho} {σ : St} (r : Rel K m F ρ σ H) (i : Nat) : ∃ F', Rel K m F' (frzS i ρ) σ H ∧ Same F F' := by
  unfold Lt.frzS
  split
  · rename_i o e
    split
    · rename_i d e2
      obtain ⟨a, ho, q1, q2, q3, q4, q5⟩ := r.own_at e
      have hi : i < ρ.length := (List.getElem?_eq_some_iff.mp e).1
      have q5' : m.He a = none := q5
      -- the slot emptied, the object stands aside
      have r0 : Rel K m F (ρ.set i .no) σ H := ⟨r.sub0, r.sub, r.prot, r.grow, r.bor, by rw [List.length_set]; exact r.len, fun j s z => by
          by_cases w : j = i
          · subst w; rw [List.getElem?_set_self hi] at z; cases z; exact ⟨_, q1, trivial⟩
          · rw [List.getElem?_set_ne (Ne.symm w)] at z; exact r.slot j s z, fun j k c b1 o1 b2 o2 ne e1 e2 e3 e4 => by
          by_cases w : j = i
          · subst w; rw [List.getElem?_set_self hi] at e1; cases e1
          · by_cases w2 : k = i
            · subst w2; rw [List.getElem?_set_self hi] at e2; cases e2
            · rw [List.getElem?_set_ne (Ne.symm w)] at e1
              rw [List.getElem?_set_ne (Ne.symm w2)] at e2
              exact r.dist j k c b1 o1 b2 o2 ne e1 e2 e3 e4, r.bh⟩
      have a0 : Aside m F (ρ.set i .no) σ H a ho := ⟨q2, q4, q5', fun hm => r.bh a hm q5', fun j b' o' z1 z2 => by
        by_cases w : j = i
        · subst w; rw [List.getElem?_set_self hi] at z1; cases z1
        · rw [List.getElem?_set_ne (Ne.symm w)] at z1
          exact r.dist j i a b' o' none o w z1 e z2 q1⟩
      obtain ⟨r1, s1⟩ := r0.freeze a0
      have r2 := r1.store i (s := .val d) (v := .ref a) ⟨_, rfl, frz_rep q4 e2 q3⟩ fun _ _ _ _ _ z => by cases z
      have e3 : (ρ.set i .no).set i (.val d) = ρ.set i (.val d) := by rw [List.set_set]
      have e4 : σ.set i (some (.ref a)) = σ := by
        refine List.ext_getElem? fun j => ?_
        by_cases w : j = i
        · subst w
          rw [List.getElem?_set_self (r.len ▸ hi)]
          exact q1.symm
        · rw [List.getElem?_set_ne (Ne.symm w)]
      rw [e3, e4] at r2
      exact ⟨_, r2, s1⟩
    · exact ⟨F, r, Same.refl _⟩
  · exact ⟨F, r, Same.refl _⟩
theorem s_frz {X : Cx} {m : Fm} {W : WX} {st : Stmt} {f : Rho → Fl} (i : Nat) (h : DS X m W st f) : DS X m W st (fun ρ => f (frzS i ρ)) := PS.imp h fun Dn σ H q => by
  obtain ⟨F, ρ, r, a⟩ := q
  obtain ⟨F', r', s⟩ := r.frzS i
  exact ⟨F', _, r', a.weak s⟩
theorem b_frz {X : Cx} {m : Fm} {W : WX} {st : List Stmt} {f : Rho → Fl} (i : Nat) (h : DB X m W st f) : DB X m W st (fun ρ => f (frzS i ρ)) := PSs.imp h fun Dn σ H q => by
  obtain ⟨F, ρ, r, a⟩ := q
  obtain ⟨F', r', s⟩ := r.frzS i
  exact ⟨F', _, r', a.weak s⟩

/-! ### a list of a name's own -/
def lstAt (i : Nat) (ρ : Rho) : Option (List D) := match ρ[i]? with
  | some (.own _ (.lst ds)) => some ds
  | _ => none
def setO (i : Nat) (o : O) (ρ : Rho) : Rho := match ρ[i]? with
  | some (.own b _) => ρ.set i (.own b o)
  | _ => ρ
theorem lstAt_is {i : Nat} {ρ : Rho} {ds : List D} (h : lstAt i ρ = some ds) : ∃ b, ρ[i]? = some (.own b (.lst ds)) := by
  unfold lstAt at h
  split at h <;> cases h
  rename_i b e
  exact ⟨b, e⟩
/-- x.append(e) -/
def sAppend (i : Nat) (g : Rho → Out D) : Rho → Fl := fun ρ => match lstAt i ρ with
  | none => .stuck
  | some _ => (g ρ).fl fun d ρ1 => match lstAt i ρ1 with
    | some ds => if ds.length < sizeLine then .nx (setO i (.lst (ds ++ [d])) ρ1) else .stuck
    | none => .stuck
/-- x[k] = e -/
def sPutL (i : Nat) (ge gk : Rho → Out D) : Rho → Fl := fun ρ => (ge ρ).fl fun d ρ1 => match lstAt i ρ1 with
  | none => .stuck
  | some _ => (gk ρ1).fl fun k ρ2 => match k, lstAt i ρ2 with
    | .int z, some ds => match ixN ds.length z with
      | some j => .nx (setO i (.lst (ds.set j d)) ρ2)
      | none => .stuck
    | _, _ => .stuck
def eIxO (i : Nat) (gk : Rho → Out D) : Rho → Out D := fun ρ => match lstAt i ρ with
  | none => .stuck
  | some _ => (gk ρ).bind fun k ρ1 => match lstAt i ρ1 with
    | some ds => lift (ixD (.lst ds) k) ρ1
    | none => .stuck
def eLenO (i : Nat) : Rho → Out D := fun ρ => match lstAt i ρ with
  | some ds => .ok (.int ds.length) ρ
  | none => .stuck
def eInO (neg : Bool) (ga : Rho → Out D) (i : Nat) : Rho → Out D := fun ρ => (ga ρ).bind fun a ρ1 => match lstAt i ρ1 with
  | some ds => lift (inD neg a (.lst ds)) ρ1
  | none => .stuck
section
variable {K : PySem.W.Frag} {m : Fm} {F H : Hp} {ρ : Rho} {σ : St}
theorem Rel.lstOwn (r : Rel K m F ρ σ H) {i : Nat} {ds : List D} (h : lstAt i ρ = some ds) : ∃ a xs, σ[i]? = some (some (.ref a)) ∧ H a = some (.lst xs) ∧ Reps K F ds xs ∧ ∀ es ys, Reps K F es ys → Rel K m F (setO i (.lst es) ρ) σ (upd H a (.lst ys)) := by
  obtain ⟨b, e⟩ := lstAt_is h
  obtain ⟨a, ho, q1, q2, ⟨xs, z, q3⟩, q4, q5⟩ := r.own_at e
  subst z
  refine ⟨a, xs, q1, q2, q3, fun es ys h2 => ?_⟩
  have r2 := r.mutate (o' := .lst es) (ho' := .lst ys) e q1 ⟨ys, rfl, h2⟩
  unfold setO
  rw [e]
  exact r2
end
section
variable {X : Cx} {m : Fm} {W : WX}
theorem s_append {i : Nat} {x : Str} {e : Expr} {g : Rho → Out D} {p apos cpos pos : Pos} (he : DE X m W e g) (hN : X.N[i]? = some x := by rfl) (hv : Vis X.env.scope x := by first | exact Or.inl rfl | exact Or.inr (Or.inl rfl) | exact Or.inr (Or.inr rfl)) (hd : (x == ("__debug__" : Str)) = false := by decide)
    (hcd : (x == ("__classdict__" : Str)) = false := by decide) (hst : starEach [e] X.env = (false, eval e X.env) :: starEach [] X.env := by rfl) (hsw : swapsWith (.Call (.Attribute (.Name x p) "append" apos) [e] [] cpos) none pos.line X.env = pure false := by rfl)
    (hbase : attributeBase (.Name x p) "append" X.env (eval (.Name x p) X.env) = eval (.Name x p) X.env := by rfl)
    (hfew : ((backTo cpos (starEach (e :: []) X.env)).all (fun x => !x.1) && (backToKw cpos (keywordEach [] X.env)).all (fun x => x.1.isSome) && decide ((e :: []).length + ([] : List Keyword).length + (if ([] : List Keyword).isEmpty then 0 else 1) < 30)) = true := by rfl)
    (hline : (apos.endLine == cpos.line) = true := by rfl) (hpl : (backTo cpos (starEach [] X.env)).any (·.1) = false := by rfl) :
    DS X m W (.Expr (.Call (.Attribute (.Name x p) "append" apos) [e] [] cpos) pos) (sAppend i g) := PS.imp (ps_expr (pe_bm PySem.F.plainAttrs_list PySem.F.slot_list_append PySem.F.type_list_append mt_append (pv i hN hv hd hcd) (pa_cons he pa_nil hst) hbase hfew hline hst hpl) hsw) fun Dn σ H h => by
  obtain ⟨F, ρ, r, a⟩ := h
  unfold sAppend at a
  cases e1 : lstAt i ρ with
  | none => rw [e1] at a; exact a.elim
  | some ds =>
    rw [e1] at a
    obtain ⟨c, xs, q1, q2, q3, _⟩ := r.lstOwn e1
    refine ⟨_, q1, .inl ⟨rfl, xs, SqL.of q2⟩, F, ρ, r, (Aft.fl a).imp fun d ρ1 F1 H1 r1 s1 a1 v rv => ?_⟩
    cases e2 : lstAt i ρ1 with
    | none => rw [e2] at a1; exact a1.elim
    | some es =>
      rw [e2] at a1
      dsimp only at a1
      split at a1
      · rename_i hz
        obtain ⟨c', ys, p1, p2, p3, p4⟩ := r1.lstOwn e2
        rw [q1] at p1
        cases p1
        exact ⟨c, ys, v, rfl, rfl, p2, by rw [p3.len]; exact hz, a1 F1 σ _ (p4 _ _ (p3.snoc rv)) (Same.refl _)⟩
      · exact a1.elim
theorem s_putL {i : Nat} {x : Str} {e k : Expr} {ge gk : Rho → Out D} {p p2 pos : Pos} (he : DE X m W e ge) (hk : DE X m W k gk) (hN : X.N[i]? = some x := by rfl) (hv : Vis X.env.scope x := by first | exact Or.inl rfl | exact Or.inr (Or.inl rfl) | exact Or.inr (Or.inr rfl)) (hd : (x == ("__debug__" : Str)) = false := by decide)
    (hcd : (x == ("__classdict__" : Str)) = false := by decide)
    (hs : swapsWithSole [.Subscript (.Name x p) k p2] e pos.line X.env = pure false := by rfl) (hw : swappedStores [.Subscript (.Name x p) k p2] e X.env = pure none := by rfl)
    (h1 : (assignEach [.Subscript (.Name x p) k p2] X.env).map (·.2) = [assign (.Subscript (.Name x p) k p2) X.env] := by rfl)
    (ha : ∀ v, assign (.Subscript (.Name x p) k p2) X.env v = (do
        let u ← holding [v] (eval (.Name x p) X.env)
        let z ← holding [v, u] (eval k X.env)
        standAt p2
        holding [v, u, z] (setItem u z v)
        release [v, u, z] []) := by intro _; rfl) :
    DS X m W (.Assign [.Subscript (.Name x p) k p2] e pos) (sPutL i ge gk) := PS.imp (ps_asg he (pg_sub (pv i hN hv hd hcd) hk set_list ha) hs hw h1) fun Dn σ H h => by
  obtain ⟨F, ρ, r, a⟩ := h
  refine ⟨F, ρ, r, (Aft.fl a).imp fun d ρ1 F1 H1 r1 s1 a1 v rv => ?_⟩
  cases e1 : lstAt i ρ1 with
  | none => rw [e1] at a1; exact a1.elim
  | some ds =>
    rw [e1] at a1
    obtain ⟨c, xs, q1, q2, q3, _⟩ := r1.lstOwn e1
    refine ⟨_, q1, F1, ρ1, r1, (Aft.fl a1).imp fun kd ρ2 F2 H2 r2 s2 a2 w rw' => ?_⟩
    split at a2
    · rename_i z es e2
      obtain ⟨c', ys, p1, p2, p3, p4⟩ := r2.lstOwn e2
      rw [q1] at p1
      cases p1
      split at a2
      · rename_i j e3
        exact ⟨c, ys, z, j, rfl, rw', p2, by rw [p3.len]; exact e3, a2 F2 σ _ (p4 _ _ (p3.set j (Rep.mono s2 _ _ rv))) (Same.refl _)⟩
      · exact a2.elim
    · exact a2.elim
theorem d_ixO {i : Nat} {x : Str} {k : Expr} {gk : Rho → Out D} {p pos : Pos} (hk : DE X m W k gk) (hs : PlainIx k := by exact fun _ _ => rfl) (hN : X.N[i]? = some x := by rfl) (hv : Vis X.env.scope x := by first | exact Or.inl rfl | exact Or.inr (Or.inl rfl) | exact Or.inr (Or.inr rfl)) (hd : (x == ("__debug__" : Str)) = false := by decide)
    (hcd : (x == ("__classdict__" : Str)) = false := by decide) : DE X m W (.Subscript (.Name x p) k pos) (eIxO i gk) := PE.imp (pe_ix ix_list (pv i hN hv hd hcd) hk hs) fun σ H Q h => by
  obtain ⟨F, ρ, r, a⟩ := h
  unfold eIxO at a
  cases e1 : lstAt i ρ with
  | none => rw [e1] at a; exact a.elim
  | some ds =>
    rw [e1] at a
    obtain ⟨c, xs, q1, q2, q3, _⟩ := r.lstOwn e1
    refine ⟨_, q1, F, ρ, r, (Aft.bind a).imp fun kd ρ1 F1 H1 r1 s1 a1 w rw' => ?_⟩
    cases e2 : lstAt i ρ1 with
    | none => rw [e2] at a1; exact a1.elim
    | some es =>
      rw [e2] at a1
      obtain ⟨c', ys, p1, p2, p3, p4⟩ := r1.lstOwn e2
      rw [q1] at p1
      cases p1
      obtain ⟨d, hd, q⟩ := Aft.lift a1
      cases kd <;> simp only [ixD, reduceCtorEq] at hd
      obtain ⟨u, e3, q3⟩ := reps_atI p3 hd
      exact ⟨c, ys, _, u, rfl, rw', SqL.of p2, e3, q F1 H1 r1 (Same.refl _) _ q3⟩
theorem d_lenO (i : Nat) {x : Str} {p p2 pos : Pos} (hg : Gl X "len") (hm : X.mg "len" = none) (hN : X.N[i]? = some x := by rfl) (hv : Vis X.env.scope x := by first | exact Or.inl rfl | exact Or.inr (Or.inl rfl) | exact Or.inr (Or.inr rfl)) (hd : (x == ("__debug__" : Str)) = false := by decide)
    (hcd : (x == ("__classdict__" : Str)) = false := by decide) (hst : starEach [.Name x p2] X.env = (false, eval (.Name x p2) X.env) :: starEach [] X.env := by rfl) (hpl : (backTo pos (starEach [] X.env)).any (·.1) = false := by rfl) : DE X m W (.Call (.Name "len" p) [.Name x p2] [] pos) (eLenO i) :=
  PE.imp (pe_callB call_len hg hm PySem.boot_len (pa_cons (pv i hN hv hd hcd) pa_nil hst) (by decide) (by decide) hst hpl) fun σ H Q h => by
    obtain ⟨F, ρ, r, a⟩ := h
    unfold eLenO at a
    cases e1 : lstAt i ρ with
    | none => rw [e1] at a; exact a.elim
    | some ds =>
      rw [e1] at a
      obtain ⟨c, xs, q1, q2, q3, _⟩ := r.lstOwn e1
      exact ⟨_, q1, _, _, rfl, .inl ⟨xs, SqL.of q2, rfl⟩, by rw [q3.len]; exact a F H r (Same.refl _) _ rfl⟩
theorem d_inO {neg : Bool} {op : CmpOp} {a : Expr} {ga : Rho → Out D} (i : Nat) {x : Str} {p pos : Pos} (ho : OpR X (compareOp op) (rIn X.K neg)) (ha : DE X m W a ga) (hN : X.N[i]? = some x := by rfl) (hv : Vis X.env.scope x := by first | exact Or.inl rfl | exact Or.inr (Or.inl rfl) | exact Or.inr (Or.inr rfl)) (hd : (x == ("__debug__" : Str)) = false := by decide)
    (hcd : (x == ("__classdict__" : Str)) = false := by decide) (hm : behindInMarks op (.Name x p) = false := by rfl) : DE X m W (.Compare a [op] [.Name x p] pos) (eInO neg ga i) := PE.imp (pe_cmpR ho ha (pv i hN hv hd hcd) hm) fun σ H Q h => by
  obtain ⟨F, ρ, r, a⟩ := h
  refine ⟨F, ρ, r, (Aft.bind a).imp fun d ρ1 F1 H1 r1 s1 a1 v rv => ?_⟩
  cases e1 : lstAt i ρ1 with
  | none => rw [e1] at a1; exact a1.elim
  | some ds =>
    rw [e1] at a1
    obtain ⟨c, xs, q1, q2, q3, _⟩ := r1.lstOwn e1
    obtain ⟨z, hz, q⟩ := Aft.lift a1
    unfold inD at hz
    dsimp only at hz
    split at hz <;> cases hz
    rename_i hf
    obtain ⟨i1, i2⟩ := inV_rep hf.1 rv hf.2 q3
    refine ⟨_, q1, c, xs, rfl, .inl (SqL.of q2), flat_rep hf.1 rv, i1, ?_⟩
    rw [i2]
    exact q F1 H1 r1 (Same.refl _) _ rfl
end
end Lt

/-! # Dicts and instances of a name's own; lent arguments; several targets; lists or tuples walked -/
namespace Lt
open PySem PySem.Spec L2

/-! ### dicts with written keys -/
def toKey : D → Option Key
  | .int i => some (.inl i)
  | .str x => some (.inr x)
  | _ => none
theorem toKey_rep {K : PySem.W.Frag} {F : Hp} {d : D} {v : V} {k : Key} (e : toKey d = some k) (h : Rep K F d v) : v = kV k := by
  cases d <;> simp only [toKey, reduceCtorEq] at e <;> cases e <;> exact h
section
variable {κ : Type} [DecidableEq κ]
def valD (kvs : List (κ × D)) (k : κ) : Option D := (kvs.find? fun kv => decide (kv.1 = k)).map (·.2)
def putD (kvs : List (κ × D)) (k : κ) (d : D) : List (κ × D) := if (kvs.any fun kv => decide (kv.1 = k)) = true then kvs.map (fun kv => if kv.1 = k then (kv.1, d) else kv) else kvs ++ [(k, d)]
theorem RepKV.val {K : PySem.W.Frag} {F : Hp} {k : κ} : ∀ {xs : List (κ × D)} {ys : List (κ × V)} {d : D}, RepKV K F xs ys → valD xs k = some d → ∃ v, valV ys k = some v ∧ Rep K F d v
  | [], _, _, h, e => by cases (show _ = [] from h); cases e
  | (k', d') :: r, ys, d, h, e => by
    obtain ⟨v, t, e1, h1, h2⟩ := (show ∃ v t, ys = (k', v) :: t ∧ Rep K F d' v ∧ RepKV K F r t from h)
    subst e1
    by_cases q : k' = k
    · subst q
      simp [valD, List.find?_cons] at e
      subst e
      exact ⟨v, by simp [valV, List.find?_cons], h1⟩
    · have e2 : valD r k = some d := by simpa [valD, List.find?_cons, q] using e
      obtain ⟨w, q1, q2⟩ := RepKV.val h2 e2
      exact ⟨w, by simpa [valV, List.find?_cons, q] using q1, q2⟩
theorem RepKV.valN {K : PySem.W.Frag} {F : Hp} {k : κ} : ∀ {xs : List (κ × D)} {ys : List (κ × V)}, RepKV K F xs ys → valD xs k = none → valV ys k = none
  | [], _, h, e => by cases (show _ = [] from h); rfl
  | (k', d') :: r, ys, h, e => by
    obtain ⟨v, t, e1, h1, h2⟩ := (show ∃ v t, ys = (k', v) :: t ∧ Rep K F d' v ∧ RepKV K F r t from h)
    subst e1
    by_cases q : k' = k
    · subst q
      simp [valD, List.find?_cons] at e
    · have e2 : valD r k = none := by simpa [valD, List.find?_cons, q] using e
      have q1 := RepKV.valN h2 e2
      simpa [valV, List.find?_cons, q] using q1
theorem RepKV.any {K : PySem.W.Frag} {F : Hp} {k : κ} : ∀ {xs : List (κ × D)} {ys : List (κ × V)}, RepKV K F xs ys → (ys.any fun kv => decide (kv.1 = k)) = (xs.any fun kv => decide (kv.1 = k))
  | [], _, h => by cases (show _ = [] from h); rfl
  | (k', d') :: r, ys, h => by
    obtain ⟨v, t, e1, h1, h2⟩ := (show ∃ v t, ys = (k', v) :: t ∧ Rep K F d' v ∧ RepKV K F r t from h)
    subst e1
    rw [List.any_cons, List.any_cons, RepKV.any h2]
theorem RepKV.app {K : PySem.W.Frag} {F : Hp} {k : κ} {d : D} {v : V} (q : Rep K F d v) : ∀ {xs : List (κ × D)} {ys : List (κ × V)}, RepKV K F xs ys → RepKV K F (xs ++ [(k, d)]) (ys ++ [(k, v)])
  | [], _, h => by cases (show _ = [] from h); exact ⟨v, [], rfl, q, rfl⟩
  | (k', d') :: r, ys, h => by
    obtain ⟨w, t, e1, h1, h2⟩ := (show ∃ v t, ys = (k', v) :: t ∧ Rep K F d' v ∧ RepKV K F r t from h)
    subst e1
    exact ⟨w, _, rfl, h1, RepKV.app q h2⟩
theorem RepKV.map {K : PySem.W.Frag} {F : Hp} {k : κ} {d : D} {v : V} (q : Rep K F d v) : ∀ {xs : List (κ × D)} {ys : List (κ × V)}, RepKV K F xs ys → RepKV K F (xs.map fun kv => if kv.1 = k then (kv.1, d) else kv) (ys.map fun kv => if kv.1 = k then (kv.1, v) else kv)
  | [], _, h => by cases (show _ = [] from h); rfl
  | (k', d') :: r, ys, h => by
    obtain ⟨w, t, e1, h1, h2⟩ := (show ∃ v t, ys = (k', v) :: t ∧ Rep K F d' v ∧ RepKV K F r t from h)
    subst e1
    rw [List.map_cons, List.map_cons]
    by_cases z : k' = k
    · simp only [z, if_true]
      exact ⟨v, _, rfl, q, by rw [← z]; exact RepKV.map q h2⟩
    · simp only [z, if_false]
      exact ⟨w, _, rfl, h1, RepKV.map q h2⟩
theorem RepKV.put {K : PySem.W.Frag} {F : Hp} {k : κ} {d : D} {v : V} {xs : List (κ × D)} {ys : List (κ × V)} (h : RepKV K F xs ys) (q : Rep K F d v) : RepKV K F (putD xs k d) (putK ys k v) := by
  unfold putD putK
  rw [h.any]
  split
  · exact h.map q
  · exact h.app q
end
def dkAt (i : Nat) (ρ : Rho) : Option (List (Key × D)) := match ρ[i]? with
  | some (.own _ (.dk kvs)) => some kvs
  | _ => none
theorem dkAt_is {i : Nat} {ρ : Rho} {kvs : List (Key × D)} (h : dkAt i ρ = some kvs) : ∃ b, ρ[i]? = some (.own b (.dk kvs)) := by
  unfold dkAt at h
  split at h <;> cases h
  rename_i b e
  exact ⟨b, e⟩
theorem Rel.dkOwn {K : PySem.W.Frag} {m : Fm} {F H : Hp} {ρ : Rho} {σ : St} (r : Rel K m F ρ σ H) {i : Nat} {kvs : List (Key × D)} (h : dkAt i ρ = some kvs) : ∃ a ys, σ[i]? = some (some (.ref a)) ∧ H a = some (.dK ys) ∧ RepKV K F kvs ys ∧ ∀ es zs, RepKV K F es zs → Rel K m F (setO i (.dk es) ρ) σ (upd H a (.dK zs)) := by
  obtain ⟨b, e⟩ := dkAt_is h
  obtain ⟨a, ho, q1, q2, ⟨xs, z, q3⟩, q4, q5⟩ := r.own_at e
  subst z
  refine ⟨a, xs, q1, q2, q3, fun es ys h2 => ?_⟩
  have r2 := r.mutate (o' := .dk es) (ho' := .dK ys) e q1 ⟨ys, rfl, h2⟩
  unfold setO
  rw [e]
  exact r2
/-- d[k] -/
def eDget (i : Nat) (gk : Rho → Out D) : Rho → Out D := fun ρ => match dkAt i ρ with
  | none => .stuck
  | some _ => (gk ρ).bind fun k ρ1 => match dkAt i ρ1, toKey k with
    | some kvs, some key => lift (valD kvs key) ρ1
    | _, _ => .stuck
/-- d[k] = e -/
def sDput (i : Nat) (ge gk : Rho → Out D) : Rho → Fl := fun ρ => (ge ρ).fl fun d ρ1 => match dkAt i ρ1 with
  | none => .stuck
  | some _ => (gk ρ1).fl fun k ρ2 => match dkAt i ρ2, toKey k with
    | some kvs, some key => if kvs.length < 1000 then .nx (setO i (.dk (putD kvs key d)) ρ2) else .stuck
    | _, _ => .stuck
section
variable {X : Cx} {m : Fm} {W : WX}
theorem d_dget {i j : Nat} {x : Str} {k : Expr} {gk : Rho → Out D} {p pos : Pos} (hr : Room j X.A) (hk : DE X m W k gk) (hs : NoSl k := by exact fun _ _ => rfl) (hN : X.N[i]? = some x := by rfl) (hv : Vis X.env.scope x := by first | exact Or.inl rfl | exact Or.inr (Or.inl rfl) | exact Or.inr (Or.inr rfl)) (hd : (x == ("__debug__" : Str)) = false := by decide)
    (hcd : (x == ("__classdict__" : Str)) = false := by decide) : DE X m W (.Subscript (.Name x p) k pos) (eDget i gk) := PE.imp (pe_dget (hu_of hr) (pv i hN hv hd hcd) hk hs) fun σ H Q h => by
  obtain ⟨F, ρ, r, a⟩ := h
  unfold eDget at a
  cases e1 : dkAt i ρ with
  | none => rw [e1] at a; exact a.elim
  | some ds =>
    rw [e1] at a
    obtain ⟨c, xs, q1, q2, q3, _⟩ := r.dkOwn e1
    refine ⟨_, q1, F, ρ, r, (Aft.bind a).imp fun kd ρ1 F1 H1 r1 s1 a1 w rw' => ?_⟩
    split at a1
    · rename_i kvs key e2 e3
      obtain ⟨c', ys, p1, p2, p3, p4⟩ := r1.dkOwn e2
      rw [q1] at p1
      cases p1
      obtain ⟨d, hd, q⟩ := Aft.lift a1
      obtain ⟨u, e4, e5⟩ := p3.val hd
      refine ⟨c, u, rfl, ?_, q F1 H1 r1 (Same.refl _) _ e5⟩
      rw [toKey_rep e3 rw', ← e4]
      exact DGet.k p2
    · exact a1.elim
theorem s_dput {i j : Nat} {x : Str} {e k : Expr} {ge gk : Rho → Out D} {p p2 pos : Pos} (hr : Room j X.A) (he : DE X m W e ge) (hk : DE X m W k gk) (hs : swapsWith e (some (.Subscript (.Name x p) k p2)) pos.line X.env = pure false := by rfl) (hN : X.N[i]? = some x := by rfl) (hv : Vis X.env.scope x := by first | exact Or.inl rfl | exact Or.inr (Or.inl rfl) | exact Or.inr (Or.inr rfl)) (hd : (x == ("__debug__" : Str)) = false := by decide)
    (hcd : (x == ("__classdict__" : Str)) = false := by decide) : DS X m W (.Assign [.Subscript (.Name x p) k p2] e pos) (sDput i ge gk) := PS.imp (ps_dput (hu_of hr) (pv i hN hv hd hcd) hk he hs) fun Dn σ H h => by
  obtain ⟨F, ρ, r, a⟩ := h
  refine ⟨F, ρ, r, (Aft.fl a).imp fun d ρ1 F1 H1 r1 s1 a1 v rv => ?_⟩
  cases e1 : dkAt i ρ1 with
  | none => rw [e1] at a1; exact a1.elim
  | some ds =>
    rw [e1] at a1
    obtain ⟨c, xs, q1, q2, q3, _⟩ := r1.dkOwn e1
    refine ⟨_, q1, F1, ρ1, r1, (Aft.fl a1).imp fun kd ρ2 F2 H2 r2 s2 a2 w rw' => ?_⟩
    split at a2
    · rename_i kvs key e2 e3
      obtain ⟨c', ys, p1, p2, p3, p4⟩ := r2.dkOwn e2
      rw [q1] at p1
      cases p1
      split at a2
      · rename_i hz
        refine ⟨c, _, rfl, ?_, a2 F2 σ _ (p4 _ _ (p3.put (k := key) (Rep.mono s2 _ _ rv))) (Same.refl _)⟩
        rw [toKey_rep e3 rw']
        exact DPut.k p2 (small1000 (by rw [p3.len]; omega))
      · exact a2.elim
    · exact a2.elim
end
/-! {k: v, ..} -/
def RepPs (K : PySem.W.Frag) (F : Hp) : List (Key × D) → List (V × V) → Prop
  | [], ps => ps = []
  | (k, d) :: r, ps => ∃ v t, ps = (kV k, v) :: t ∧ Rep K F d v ∧ RepPs K F r t
theorem RepPs.mono {K : PySem.W.Frag} {F F' : Hp} (e : Same F F') : ∀ {xs : List (Key × D)} {ys : List (V × V)}, RepPs K F xs ys → RepPs K F' xs ys
  | [], _, h => h
  | (_, _) :: _, _, ⟨v, t, h1, h2, h3⟩ => ⟨v, t, h1, Rep.mono e _ _ h2, RepPs.mono e h3⟩
theorem RepPs.kv {K : PySem.W.Frag} {F : Hp} : ∀ {xs : List (Key × D)} {ps : List (V × V)}, RepPs K F xs ps → ∃ ys : List (Key × V), ps = ys.map (fun kv => (kV kv.1, kv.2)) ∧ RepKV K F xs ys
  | [], _, h => ⟨[], h, rfl⟩
  | (k, d) :: r, ps, h => by
    obtain ⟨v, t, e1, h1, h2⟩ := (show ∃ v t, ps = (kV k, v) :: t ∧ Rep K F d v ∧ RepPs K F r t from h)
    obtain ⟨ys, e2, h3⟩ := RepPs.kv h2
    exact ⟨(k, v) :: ys, by rw [e1, e2]; rfl, v, ys, rfl, h1, h3⟩
def mergeD (kvs more : List (Key × D)) : List (Key × D) := more.foldl (fun acc kv => putD acc kv.1 kv.2) kvs
theorem merge_rep {K : PySem.W.Frag} {F : Hp} : ∀ {more : List (Key × D)} {rs : List (Key × V)} {kvs : List (Key × D)} {vs : List (Key × V)}, RepKV K F more rs → RepKV K F kvs vs → RepKV K F (mergeD kvs more) (mergeK vs rs)
  | [], _, _, _, h, q => by cases (show _ = [] from h); exact q
  | (k, d) :: r, rs, kvs, vs, h, q => by
    obtain ⟨v, t, e1, h1, h2⟩ := (show ∃ v t, rs = (k, v) :: t ∧ Rep K F d v ∧ RepKV K F r t from h)
    subst e1
    exact merge_rep (more := r) (rs := t) h2 (q.put h1)
abbrev exM (X : Cx) (W : WX) (g : Rho → Out D) : TE := fun σ H Q => ∃ m, tD X.K m W g σ H Q
structure DPs (X : Cx) (W : WX) (pos : Pos) (keys : List (Option Expr)) (values : List Expr) (g : Rho → Out (List (Key × D))) : Prop where
  ex : ∃ trs, PPs X pos keys values trs ∧ ∀ m σ H Q, tX X.K m W g (fun kvs _ F' H' => ∀ ps, RepPs X.K F' kvs ps → Q ps H') σ H → tPairs trs σ H Q
def pNil : Rho → Out (List (Key × D)) := fun ρ => .ok [] ρ
def pCons (gk gv : Rho → Out D) (gr : Rho → Out (List (Key × D))) : Rho → Out (List (Key × D)) := fun ρ => (gk ρ).bind fun k ρ1 => (gv ρ1).bind fun v ρ2 => (gr ρ2).bind fun r ρ3 => match toKey k with
  | some key => .ok ((key, v) :: r) ρ3
  | none => .stuck
section
variable {X : Cx} {m : Fm} {W : WX}
theorem dps_nil {pos : Pos} : DPs X W pos [] [] pNil := ⟨[], pps_nil, fun m σ H Q h => by
  obtain ⟨F, ρ, r, a⟩ := h
  exact a F H r (Same.refl _) [] rfl⟩
theorem dps_cons {pos : Pos} {k v : Expr} {ks : List (Option Expr)} {vs : List Expr} {gk gv : Rho → Out D} {gr : Rho → Out (List (Key × D))} (hk : ∀ m, DE X m W k gk) (hv : ∀ m, DE X m W v gv) (hr : DPs X W pos ks vs gr) : DPs X W pos (some k :: ks) (v :: vs) (pCons gk gv gr) := by
  obtain ⟨trs, h1, h2⟩ := hr.ex
  have all : ∀ {e : Expr} {g : Rho → Out D}, (∀ m, DE X m W e g) → PE X e (exM X W g) := fun h => ⟨fun pins s σ H Q I ⟨m, q⟩ => (h m).run pins s σ H Q I q⟩
  refine ⟨_, pps_cons (all hk) (all hv) h1, fun m σ H Q h => ?_⟩
  obtain ⟨F, ρ, r, a⟩ := h
  refine ⟨m, F, ρ, r, (Aft.bind a).imp fun kd ρ1 F1 H1 r1 s1 a1 x rx => ⟨m, F1, ρ1, r1, (Aft.bind a1).imp fun d ρ2 F2 H2 r2 s2 a2 y ry => h2 m σ H2 _ ⟨F2, ρ2, r2, (Aft.bind a2).imp fun rs ρ3 F3 H3 r3 s3 a3 ps rps => ?_⟩⟩⟩
  cases e : toKey kd with
  | none => rw [e] at a3; exact a3.elim
  | some key =>
    rw [e] at a3
    refine a3 F3 H3 r3 (Same.refl _) _ ⟨y, ps, ?_, Rep.mono s3 _ _ ry, rps⟩
    rw [toKey_rep e rx]
def oDict (g : Rho → Out (List (Key × D))) : Rho → Out O := fun ρ => (g ρ).bind fun kvs ρ1 => if kvs.length ≤ 15 then .ok (.dk (mergeD [] kvs)) ρ1 else .stuck
theorem o_dict {pos : Pos} {keys : List (Option Expr)} {values : List Expr} {g : Rho → Out (List (Key × D))} (h : DPs X W pos keys values g) (hall : keys.all (·.isSome) = true := by rfl) (hl : keys.length = values.length := by rfl) (h0 : keys ≠ [] := by exact fun z => nomatch z) (h15 : keys.length ≤ 15 := by decide) : DEO X m W (.Dict keys values pos) (oDict g) := by
  obtain ⟨trs, h1, h2⟩ := h.ex
  refine PE.imp (pe_disp h1 hall hl h0 h15) fun σ H Q q => ?_
  obtain ⟨F, ρ, r, a⟩ := q
  intro p np
  obtain ⟨r1, a1⟩ := r.aside_new np (.dK [])
  have hD0 : m.F0 p = none := by
    cases z : m.F0 p with
    | none => rfl
    | some u => rw [r.sub _ _ (r.sub0 _ _ z)] at np; cases np
  have rk := r1.aside a1
  refine h2 (m.put p (.dK [])) σ _ _ ⟨F, ρ, rk, ?_⟩
  unfold oDict at a
  cases e : g ρ with
  | stuck => rw [e] at a; exact a.elim
  | exc C ns ds ρ' =>
    rw [e] at a
    exact fun F' H' dd r' s' x => a F' H' dd (r'.unaside a1.he a1.nb hD0).1 s' (x.he fun _ n => Fm.put_none a1.he n)
  | ok kvs ρ' =>
    rw [e, bind_ok] at a
    intro F' H' r' s' ps rps
    obtain ⟨r2, a2⟩ := r'.unaside a1.he a1.nb hD0
    obtain ⟨ys, e2, rk2⟩ := rps.kv
    split at a
    · rename_i hz
      refine ⟨a2.at_, ys, e2, by rw [rk2.len]; exact hz, ?_⟩
      obtain ⟨r3, a3⟩ := r2.change a2 (.dK (mergeK [] ys))
      exact a F' _ r3 s' p _ a3 ⟨_, rfl, merge_rep rk2 rfl⟩
    · exact a.elim
end

/-! ### the fields of an instance of a name's own -/
def insAt (i : Nat) (C : Addr) (ρ : Rho) : Option (List (Str × D)) := match ρ[i]? with
  | some (.own _ (.ins C' fs)) => if C' = C then some fs else none
  | _ => none
theorem insAt_is {i : Nat} {C : Addr} {ρ : Rho} {fs : List (Str × D)} (h : insAt i C ρ = some fs) : ∃ b, ρ[i]? = some (.own b (.ins C fs)) := by
  unfold insAt at h
  split at h
  · rename_i b C' fs' e
    split at h
    · rename_i z
      cases h
      subst z
      exact ⟨b, e⟩
    · cases h
  · cases h
def putFD (f : Str) (d : D) : List (Str × D) → List (Str × D)
  | [] => [(f, d)]
  | (g, x) :: r => if g = f then (g, d) :: r else (g, x) :: putFD f d r
theorem RepKV.putF {K : PySem.W.Frag} {F : Hp} {f : Str} {d : D} {v : V} (q : Rep K F d v) : ∀ {xs : List (Str × D)} {ys : List (Str × V)}, RepKV K F xs ys → RepKV K F (putFD f d xs) (L2.putF f v ys)
  | [], _, h => by cases (show _ = [] from h); exact ⟨v, [], rfl, q, rfl⟩
  | (k', d') :: r, ys, h => by
    obtain ⟨w, t, e1, h1, h2⟩ := (show ∃ v t, ys = (k', v) :: t ∧ Rep K F d' v ∧ RepKV K F r t from h)
    subst e1
    by_cases z : k' = f
    · simp only [putFD, L2.putF, z, if_true]
      exact ⟨v, t, rfl, q, h2⟩
    · simp only [putFD, L2.putF, z, if_false]
      exact ⟨w, _, rfl, h1, RepKV.putF q h2⟩
theorem RepKV.look {K : PySem.W.Frag} {F : Hp} {f : Str} : ∀ {xs : List (Str × D)} {ys : List (Str × V)} {d : D}, RepKV K F xs ys → xs.lookup f = some d → ∃ v, ys.lookup f = some v ∧ Rep K F d v
  | [], _, _, _, e => by cases e
  | (k', d') :: r, ys, d, h, e => by
    obtain ⟨w, t, e1, h1, h2⟩ := (show ∃ v t, ys = (k', v) :: t ∧ Rep K F d' v ∧ RepKV K F r t from h)
    subst e1
    rw [List.lookup_cons] at e ⊢
    cases b : f == k' with
    | true => rw [b] at e; cases e; exact ⟨w, rfl, h1⟩
    | false => rw [b] at e; exact RepKV.look h2 e
theorem Rel.insOwn {K : PySem.W.Frag} {m : Fm} {F H : Hp} {ρ : Rho} {σ : St} (r : Rel K m F ρ σ H) {i : Nat} {C : Addr} {fs : List (Str × D)} (h : insAt i C ρ = some fs) : ∃ a dx ys, σ[i]? = some (some (.ref a)) ∧ H a = some (.ins C dx ys) ∧ RepKV K F fs ys ∧ ∀ es zs, RepKV K F es zs → Rel K m F (setO i (.ins C es) ρ) σ (upd H a (.ins C dx zs)) := by
  obtain ⟨b, e⟩ := insAt_is h
  obtain ⟨a, ho, q1, q2, ⟨dx, xs, z, q3⟩, q4, q5⟩ := r.own_at e
  subst z
  refine ⟨a, dx, xs, q1, q2, q3, fun es ys h2 => ?_⟩
  have r2 := r.mutate (o' := .ins C es) (ho' := .ins C dx ys) e q1 ⟨dx, ys, rfl, h2⟩
  unfold setO
  rw [e]
  exact r2
/-- self.f -/
def eFldO (i : Nat) (C : Addr) (f : Str) : Rho → Out D := fun ρ => match insAt i C ρ with
  | some fs => lift (fs.lookup f) ρ
  | none => .stuck
/-- self.f = e -/
def sFldO (i : Nat) (C : Addr) (f : Str) (g : Rho → Out D) : Rho → Fl := fun ρ => (g ρ).fl fun d ρ1 => match insAt i C ρ1 with
  | some fs => if fs.length < 900 then .nx (setO i (.ins C (putFD f d fs)) ρ1) else .stuck
  | none => .stuck
section
variable {X : Cx} {m : Fm} {W : WX}
theorem d_fldO {i : Nat} {C : Addr} {x f : Str} {p pos : Pos} (c : Cls X.K C) (n : NoAttr X.K C f) (hb : attributeBase (.Name x p) f X.env (eval (.Name x p) X.env) = eval (.Name x p) X.env := by rfl) (hN : X.N[i]? = some x := by rfl) (hv : Vis X.env.scope x := by first | exact Or.inl rfl | exact Or.inr (Or.inl rfl) | exact Or.inr (Or.inr rfl)) (hd : (x == ("__debug__" : Str)) = false := by decide)
    (hcd : (x == ("__classdict__" : Str)) = false := by decide) : DE X m W (.Attribute (.Name x p) f pos) (eFldO i C f) := PE.imp (pe_fld (pv i hN hv hd hcd) hb) fun σ H Q h => by
  obtain ⟨F, ρ, r, a⟩ := h
  unfold eFldO at a
  cases e1 : insAt i C ρ with
  | none => rw [e1] at a; exact a.elim
  | some fs =>
    rw [e1] at a
    obtain ⟨b, dx, ys, q1, q2, q3, _⟩ := r.insOwn e1
    obtain ⟨d, e2, q⟩ := Aft.lift a
    obtain ⟨v, l, rv⟩ := q3.look e2
    exact ⟨_, q1, b, C, dx, ys, v, rfl, q2, c, n, l, q F H r (Same.refl _) _ rv⟩
theorem s_fldO {i : Nat} {C : Addr} {x f : Str} {e : Expr} {g : Rho → Out D} {p p2 pos : Pos} (c : Cls X.K C) (n : NoAttr X.K C f) (he : DE X m W e g) (hs : swapsWith e (some (.Attribute (.Name x p) f p2)) pos.line X.env = pure false := by rfl) (hN : X.N[i]? = some x := by rfl) (hv : Vis X.env.scope x := by first | exact Or.inl rfl | exact Or.inr (Or.inl rfl) | exact Or.inr (Or.inr rfl)) (hd : (x == ("__debug__" : Str)) = false := by decide)
    (hcd : (x == ("__classdict__" : Str)) = false := by decide) : DS X m W (.Assign [.Attribute (.Name x p) f p2] e pos) (sFldO i C f g) := PS.imp (ps_fld (pv i hN hv hd hcd) he hs) fun Dn σ H h => by
  obtain ⟨F, ρ, r, a⟩ := h
  refine ⟨F, ρ, r, (Aft.fl a).imp fun d ρ1 F1 H1 r1 s1 a1 v rv => ?_⟩
  cases e1 : insAt i C ρ1 with
  | none => rw [e1] at a1; exact a1.elim
  | some fs =>
    rw [e1] at a1
    dsimp only at a1
    split at a1
    · rename_i hz
      obtain ⟨b, dx, ys, q1, q2, q3, q4⟩ := r1.insOwn e1
      exact ⟨_, q1, b, C, dx, ys, rfl, q2, c, n, by rw [q3.len]; omega, a1 F1 σ _ (q4 _ _ (q3.putF rv)) (Same.refl _)⟩
    · exact a1.elim
end

/-! ### C(..): a new instance -/
def oMake (fs : Fs) (C : Addr) (gs : Rho → Out (List D)) : Rho → Out O := fun ρ => (gs ρ).bind fun ds ρ1 => match fs (.own (.ins C []) :: ds.map R.val) with
  | .ok (.val .non) (.own o :: _) => .ok o ρ1
  | .exc C' ns xs _ => .exc C' ns xs ρ1
  | _ => .stuck
structure CalC (P : Program) (w : World) (K : PySem.W.Frag) (mg : Str → Option Value) (base : Heap) (x : Str) (C : Addr) (k : Nat) (fs : Fs) : Prop where
  ex : ∃ (f : Addr) (fd : FuncData) (ps : List Str), mg x = some (.ref C) ∧ Mk K C f ∧ Binds K fd ps [] ∧ FnOk P w K mg base (L2.CX P w) k f fd ps (spF K fs)
section
variable {X : Cx} {m : Fm} {W : WX}
/-- a class's call, its errors told with the frame's state -/
def tMakeAt (C : Addr) (sp : Sp) (W : WX) (t : TA) : TE := fun σ H Q => t σ H fun vs H1 => ∀ x dx, H1 x = none → H1 dx = none → dx ≠ x →
  sp (.ref x :: vs) (upd (upd H1 dx (.own x)) x (.ins C dx [])) (fun v H2 => v = .non ∧ Q (.ref x) H2) (WE W σ)
theorem make_at {f C : Addr} {fd : FuncData} {k : Nat} {ps : List Str} {sp : Sp} {pins : List (Addr × Obj)} {σ : St} {H : Hp} {s : Shared} {Q : VK} {us : List Value} {vs : List V} (M : Mk X.K C f) (hr : Room (k + 1) X.A) (hb : Binds X.K fd ps [])
    (F : FnOk X.prog X.w X.K X.mg X.base (L2.CX X.prog X.w) k f fd ps sp) (hx : PassesAt (L2.CX X.prog X.w) X σ (WE W σ)) (I : Inv X pins σ H s) (rv : Vals vs us)
    (h : ∀ x dx, H x = none → H dx = none → dx ≠ x → sp (.ref x :: vs) (upd (upd H dx (.own x)) x (.ins C dx [])) (fun v H2 => v = .non ∧ Q (.ref x) H2) (WE W σ)) : wpAny (model X.prog X.w) X.A (call (.ref C) us) (EP X pins σ Q) X.xe s := by
  have n := s.heap.objs.size
  have ne : s.heap.objs.size ≠ s.heap.objs.size + 1 := Nat.ne_of_lt (Nat.lt_succ_self _)
  have q1 := h _ _ (I.hok.fresh (Nat.le_succ s.heap.objs.size)) (I.hok.fresh (Nat.le_refl _)) ne
  have J := I.made (C := C)
  have rr : Vals (V.ref (s.heap.objs.size + 1) :: vs) (Value.ref (s.heap.objs.size + 1) :: us) := .cons rfl rv
  have len : (Value.ref (s.heap.objs.size + 1) :: us).length = ps.length := rr.length.symm.trans (F.len _ _ _ _ q1)
  have bb := hb _ (Value.ref (s.heap.objs.size + 1) :: us) J.kIn (by rw [List.append_nil]; exact len)
  rw [List.append_nil] at bb
  have run := F.run _ X.stack _ _ ⟨Value.ref (s.heap.objs.size + 1) :: us, []⟩ _ _ _ (WE W σ) (hr.make C us []) (J.env0.make C us []) bb rr q1
  refine wpAny_call (make_map (f := f) I.kIn M.makes M.init (beq_iff_eq.mp M.fn) (codeAny_mono run fun r s' hq' => ?_))
  match r, hq' with
  | .error e, z => exact hx pins _ _ e s' J z
  | .ok (.ret u), z =>
    obtain ⟨v, H', I3, r3, e3, q3⟩ := J.after z
    subst e3
    exact ⟨r3, V.ref (s.heap.objs.size + 1), H', I3, rfl, q3⟩
  | .ok .next, z => exact z.elim
  | .ok .brk, z => exact z.elim
  | .ok .cont, z => exact z.elim
theorem make_of {fs : Fs} {C : Addr} {gs : Rho → Out (List D)} {σ : St} {H : Hp} {Q : VK} (h : tO X.K m W (oMake fs C gs) σ H Q) : tMakeAt C (spF X.K fs) W (tL X.K m W gs) σ H Q := by
  obtain ⟨F, ρ, r, a⟩ := h
  refine ⟨F, ρ, r, (Aft.bind a).imp fun ds ρ1 F1 H1 r1 s1 a1 vs rvs x dx nx ndx nex => ?_⟩
  have r2 := r1.laid (o := .own x) ndx
  have nx2 : upd H1 dx (.own x) x = none := by rw [upd_ne (Ne.symm nex)]; exact nx
  have fx := r1.f_none nx
  refine ⟨F1, .own (.ins C []) :: ds.map R.val, ?_, ⟨x, .ins C dx [], vs, rfl, upd_same, ⟨dx, [], rfl, rfl⟩, fx, ?_⟩, ?_, ?_⟩
  · intro b o e
    have h1 := r1.sub b o e
    rw [upd_ne (ne_of_none h1 nx), upd_ne (ne_of_none h1 ndx)]
    exact h1
  · have key : ∀ {ds : List D} {vs : List V} {H2 : Hp}, Reps X.K F1 ds vs → ArgsOk X.K F1 H2 (ds.map R.val) vs := by
      intro ds
      induction ds with
      | nil => intro vs H2 h; exact h
      | cons d ds ih =>
        intro vs H2 h
        obtain ⟨y, t, e, h1, h2⟩ := h
        exact ⟨y, t, e, h1, ih h2⟩
    exact key rvs
  · show (x :: ownA (ds.map R.val) vs).Nodup
    rw [own_vals]
    simp
  · have same1 : ∀ b o, H1 b = some o → (upd (upd H1 dx (.own x)) x (.ins C dx [])) b = some o := fun b o e => by
      rw [upd_ne (ne_of_none e nx), upd_ne (ne_of_none e ndx)]; exact e
    have back : ∀ {F' H' : Hp} {bs : List R}, Post X.K F1 (upd (upd H1 dx (.own x)) x (.ins C dx [])) (.own (.ins C []) :: ds.map R.val) (.ref x :: vs) F' H' bs → Rel X.K m F' ρ1 σ H' ∧ ∃ o ho, bs[0]? = some (.own o) ∧ RepO X.K F' o ho ∧ Aside m F' ρ1 σ H' x ho := by
      intro F' H' bs p
      have g : ∀ a, F' a ≠ none → F1 a ≠ none ∨ H1 a = none := fun a n => by
        rcases p.grow a n with q | q
        · exact .inl q
        · refine .inr ?_
          cases z : H1 a with
          | none => rfl
          | some u => rw [same1 a u z] at q; cases q
      have k : ∀ b o, H1 b = some o → H' b = some o := fun b o e => by
        refine p.keep b o (same1 b o e) ?_
        show b ∉ x :: ownA (ds.map R.val) vs
        rw [own_vals]
        have := ne_of_none e nx
        simpa using this
      have r3 := r1.grown p.fz p.sub k g
      obtain ⟨a', o', ho, e1, e2, e3, e4, e5⟩ := p.own 0 (.ins C []) rfl
      cases e1
      refine ⟨r3, o', ho, e2, e4, ⟨e3, e5, r1.he_none nx, fun h => (r1.bor x h).1 nx, fun j b o1 h1 h2 => ?_⟩⟩
      obtain ⟨c, hc, q1, q2, _⟩ := r1.own_at h1
      rw [h2] at q1
      cases q1
      rw [nx] at q2
      cases q2
    cases e : fs (.own (.ins C []) :: ds.map R.val) with
    | stuck => rw [e] at a1; exact a1.elim
    | exc C' ns xs bs =>
      rw [e] at a1
      exact fun F' H' dd p x' => a1 F' H' dd (back p).1 p.fz (x'.he fun d n => r1.he_none (by
        cases z : H1 d with
        | none => rfl
        | some u => rw [same1 d u z] at n; cases n))
    | ok rr bs =>
      rw [e] at a1
      intro F' H' v p rv
      obtain ⟨r3, o, ho, e1, e2, e3⟩ := back p
      cases rr with
      | own o' => exact a1.elim
      | val d =>
        cases d <;> try exact a1.elim
        cases bs with
        | nil => cases e1
        | cons b0 br =>
          cases e1
          exact ⟨rv, a1 F' H' r3 p.fz x ho e3 e2⟩
theorem o_make {C : Addr} {k j : Nat} {fs : Fs} {x : Str} {e : Expr} {es : List Expr} {gs : Rho → Out (List D)} {p pos : Pos} (c : CalC X.prog X.w X.K X.mg X.base x C k fs) (hr : Room j X.A) (tk : Takes X W) (ha : DL X m W (e :: es) gs) (hk : k + 1 ≤ j := by decide) (hg : Gl X x := by rfl)
    (hdb : (x == ("__debug__" : Str)) = false := by decide) (he : starEach (e :: es) X.env = (false, eval e X.env) :: starEach es X.env := by rfl) (hpl : (backTo pos (starEach es X.env)).any (·.1) = false := by rfl) : DEO X m W (.Call (.Name x p) (e :: es) [] pos) (oMake fs C gs) := by
  obtain ⟨f, fd, ps, h1, h2, h3, h4⟩ := c.ex
  refine ⟨fun pins s σ H Q I h => ?_⟩
  have h' := make_of (X := X) h
  refine wpAny_Call_Name_kw (ld_glob I hg h1 ?_ hdb)
  exact PySem.W.callWith_K (h₀ := X.base) I.ok.mod.kin h2.kp (thn (ha.run pos pins s σ H _ I h') fun us s1 ⟨vs, H1, I1, r, q⟩ => ⟨I1.kIn, make_at h2 (hr.mono hk) h3 h4 (passAt tk σ) I1 r q⟩) he hpl
end
end Lt

/-! # Lent arguments -/
namespace Lt
open PySem PySem.Spec L2

/-- an argument: data, or the object that a name holds -/
inductive Ar where
  | val (d : D) | slot (i : Nat)
def slotsOf : List Ar → List Nat
  | [] => []
  | .slot i :: r => i :: slotsOf r
  | .val _ :: r => slotsOf r
def mkArgs : List Ar → Rho → Option (List R)
  | [], _ => some []
  | .val d :: r, ρ => (mkArgs r ρ).map (.val d :: ·)
  | .slot i :: r, ρ => match ρ[i]? with
    | some (.own _ o) => (mkArgs r ρ).map (.own o :: ·)
    | _ => none
def putBack : List Ar → List R → Rho → Rho
  | .slot i :: as, .own o :: bs, ρ => putBack as bs (setO i o ρ)
  | _ :: as, _ :: bs, ρ => putBack as bs ρ
  | _, _, ρ => ρ
def RepAr (K : PySem.W.Frag) (F : Hp) (σ : St) : List Ar → List V → Prop
  | [], vs => vs = []
  | .val d :: r, vs => ∃ v t, vs = v :: t ∧ Rep K F d v ∧ RepAr K F σ r t
  | .slot i :: r, vs => ∃ v t, vs = v :: t ∧ σ[i]? = some (some v) ∧ RepAr K F σ r t
theorem ownA_mem : ∀ {rs : List R} {vs : List V} {a : Addr}, a ∈ ownA rs vs ↔ ∃ (k : Nat) (o : O), rs[k]? = some (.own o) ∧ vs[k]? = some (.ref a)
  | [], vs, a => by simp [ownA]
  | .val d :: rs, [], a => by simp [ownA]
  | .own d :: rs, [], a => by simp [ownA]
  | .val d :: rs, v :: vs, a => by
    have ih := ownA_mem (rs := rs) (vs := vs) (a := a)
    have e : ownA (.val d :: rs) (v :: vs) = ownA rs vs := by cases v <;> rfl
    rw [e, ih]
    constructor
    · rintro ⟨k, o, h1, h2⟩; exact ⟨k + 1, o, by simpa using h1, by simpa using h2⟩
    · rintro ⟨k, o, h1, h2⟩
      cases k with
      | zero => simp at h1
      | succ k => exact ⟨k, o, by simpa using h1, by simpa using h2⟩
  | .own d :: rs, .ref b :: vs, a => by
    have ih := ownA_mem (rs := rs) (vs := vs) (a := a)
    show a ∈ b :: ownA rs vs ↔ _
    rw [List.mem_cons, ih]
    constructor
    · rintro (e | ⟨k, o, h1, h2⟩)
      · subst e; exact ⟨0, d, rfl, rfl⟩
      · exact ⟨k + 1, o, by simpa using h1, by simpa using h2⟩
    · rintro ⟨k, o, h1, h2⟩
      cases k with
      | zero => simp at h2; exact .inl h2.symm
      | succ k => exact .inr ⟨k, o, by simpa using h1, by simpa using h2⟩
  | .own d :: rs, .non :: vs, a => by
    have ih := ownA_mem (rs := rs) (vs := vs) (a := a)
    show a ∈ ownA rs vs ↔ _
    rw [ih]
    constructor
    · rintro ⟨k, o, h1, h2⟩; exact ⟨k + 1, o, by simpa using h1, by simpa using h2⟩
    · rintro ⟨k, o, h1, h2⟩
      cases k with
      | zero => simp at h2
      | succ k => exact ⟨k, o, by simpa using h1, by simpa using h2⟩
  | .own d :: rs, .bl _ :: vs, a | .own d :: rs, .int _ :: vs, a | .own d :: rs, .str _ :: vs, a | .own d :: rs, .byt _ :: vs, a | .own d :: rs, .flt _ :: vs, a | .own d :: rs, .ty _ :: vs, a => by
    have ih := ownA_mem (rs := rs) (vs := vs) (a := a)
    show a ∈ ownA rs vs ↔ _
    rw [ih]
    constructor
    · rintro ⟨k, o, h1, h2⟩; exact ⟨k + 1, o, by simpa using h1, by simpa using h2⟩
    · rintro ⟨k, o, h1, h2⟩
      cases k with
      | zero => simp at h2
      | succ k => exact ⟨k, o, by simpa using h1, by simpa using h2⟩
theorem mkArgs_at : ∀ {as : List Ar} {ρ : Rho} {rs : List R}, mkArgs as ρ = some rs → rs.length = as.length ∧ ∀ (k : Nat), (∀ d, as[k]? = some (.val d) → rs[k]? = some (.val d)) ∧ (∀ i, as[k]? = some (.slot i) → ∃ b o, ρ[i]? = some (.own b o) ∧ rs[k]? = some (.own o))
  | [], ρ, rs, h => by cases h; exact ⟨rfl, fun k => ⟨fun d e => by simp at e, fun i e => by simp at e⟩⟩
  | .val d :: as, ρ, rs, h => by
    obtain ⟨cs, q1, q2⟩ := Option.map_eq_some_iff.mp (show (mkArgs as ρ).map (.val d :: ·) = some rs from h)
    subst q2
    obtain ⟨l, ih⟩ := mkArgs_at q1
    refine ⟨by simp [l], fun k => ?_⟩
    cases k with
    | zero => exact ⟨fun d' e => by simpa using e, fun i e => by simp at e⟩
    | succ k => exact ⟨fun d' e => by simpa using (ih k).1 d' (by simpa using e), fun i e => by simpa using (ih k).2 i (by simpa using e)⟩
  | .slot i :: as, ρ, rs, h => by
    unfold mkArgs at h
    split at h
    · rename_i b o e0
      obtain ⟨cs, q1, q2⟩ := Option.map_eq_some_iff.mp h
      subst q2
      obtain ⟨l, ih⟩ := mkArgs_at q1
      refine ⟨by simp [l], fun k => ?_⟩
      cases k with
      | zero => exact ⟨fun d' e => by simp at e, fun i' e => by simp at e; subst e; exact ⟨b, o, e0, rfl⟩⟩
      | succ k => exact ⟨fun d' e => by simpa using (ih k).1 d' (by simpa using e), fun i e => by simpa using (ih k).2 i (by simpa using e)⟩
    · cases h
theorem repAr_at {K : PySem.W.Frag} {F : Hp} {σ : St} : ∀ {as : List Ar} {vs : List V}, RepAr K F σ as vs → vs.length = as.length ∧ ∀ (k : Nat), (∀ d, as[k]? = some (.val d) → ∃ v, vs[k]? = some v ∧ Rep K F d v) ∧ (∀ i, as[k]? = some (.slot i) → ∃ v, vs[k]? = some v ∧ σ[i]? = some (some v))
  | [], vs, h => by cases (show vs = [] from h); exact ⟨rfl, fun k => ⟨fun d e => by simp at e, fun i e => by simp at e⟩⟩
  | .val d :: as, vs, h => by
    obtain ⟨v, t, e, h1, h2⟩ := (show ∃ v t, vs = v :: t ∧ Rep K F d v ∧ RepAr K F σ as t from h)
    subst e
    obtain ⟨l, ih⟩ := repAr_at h2
    refine ⟨by simp [l], fun k => ?_⟩
    cases k with
    | zero => exact ⟨fun d' e => by simp at e; subst e; exact ⟨v, rfl, h1⟩, fun i e => by simp at e⟩
    | succ k => exact ⟨fun d' e => by simpa using (ih k).1 d' (by simpa using e), fun i e => by simpa using (ih k).2 i (by simpa using e)⟩
  | .slot i :: as, vs, h => by
    obtain ⟨v, t, e, h1, h2⟩ := (show ∃ v t, vs = v :: t ∧ σ[i]? = some (some v) ∧ RepAr K F σ as t from h)
    subst e
    obtain ⟨l, ih⟩ := repAr_at h2
    refine ⟨by simp [l], fun k => ?_⟩
    cases k with
    | zero => exact ⟨fun d' e => by simp at e, fun i' e => by simp at e; subst e; exact ⟨v, rfl, h1⟩⟩
    | succ k => exact ⟨fun d' e => by simpa using (ih k).1 d' (by simpa using e), fun i e => by simpa using (ih k).2 i (by simpa using e)⟩
theorem slots_at : ∀ {as : List Ar} {i : Nat}, i ∈ slotsOf as ↔ ∃ k : Nat, as[k]? = some (.slot i)
  | [], i => by simp [slotsOf]
  | .val d :: as, i => by
    have ih := slots_at (as := as) (i := i)
    show i ∈ slotsOf as ↔ _
    rw [ih]
    constructor
    · rintro ⟨k, h⟩; exact ⟨k + 1, by simpa using h⟩
    · rintro ⟨k, h⟩
      cases k with
      | zero => simp at h
      | succ k => exact ⟨k, by simpa using h⟩
  | .slot j :: as, i => by
    have ih := slots_at (as := as) (i := i)
    show i ∈ j :: slotsOf as ↔ _
    rw [List.mem_cons, ih]
    constructor
    · rintro (e | ⟨k, h⟩)
      · exact ⟨0, by simp [e]⟩
      · exact ⟨k + 1, by simpa using h⟩
    · rintro ⟨k, h⟩
      cases k with
      | zero => simp at h; exact .inl h.symm
      | succ k => exact .inr ⟨k, by simpa using h⟩
section
variable {K : PySem.W.Frag} {m : Fm} {F H : Hp} {ρ : Rho} {σ : St}
theorem args_lent (r : Rel K m F ρ σ H) : ∀ {as : List Ar} {rs : List R} {vs : List V}, mkArgs as ρ = some rs → RepAr K F σ as vs → ArgsOk K F H rs vs
  | [], rs, vs, h, q => by cases h; exact q
  | .val d :: as, rs, vs, h, q => by
    obtain ⟨cs, q1, q2⟩ := Option.map_eq_some_iff.mp (show (mkArgs as ρ).map (.val d :: ·) = some rs from h)
    subst q2
    obtain ⟨v, t, e, h1, h2⟩ := (show ∃ v t, vs = v :: t ∧ Rep K F d v ∧ RepAr K F σ as t from q)
    exact ⟨v, t, e, h1, args_lent r q1 h2⟩
  | .slot i :: as, rs, vs, h, q => by
    obtain ⟨v, t, e, h1, h2⟩ := (show ∃ v t, vs = v :: t ∧ σ[i]? = some (some v) ∧ RepAr K F σ as t from q)
    unfold mkArgs at h
    split at h
    · rename_i b o e0
      obtain ⟨cs, q1, q2⟩ := Option.map_eq_some_iff.mp h
      subst q2
      obtain ⟨a, ho, z1, z2, z3, z4, _⟩ := r.own_at e0
      rw [h1] at z1
      cases z1
      exact ⟨a, ho, t, e, z2, z3, z4, args_lent r q1 h2⟩
    · cases h
theorem lent_nodup (r : Rel K m F ρ σ H) : ∀ {as : List Ar} {rs : List R} {vs : List V}, mkArgs as ρ = some rs → RepAr K F σ as vs → (slotsOf as).Nodup → (ownA rs vs).Nodup
  | [], rs, vs, h, q, _ => by cases h; simp [ownA]
  | .val d :: as, rs, vs, h, q, n => by
    obtain ⟨cs, q1, q2⟩ := Option.map_eq_some_iff.mp (show (mkArgs as ρ).map (.val d :: ·) = some rs from h)
    subst q2
    obtain ⟨v, t, e, h1, h2⟩ := (show ∃ v t, vs = v :: t ∧ Rep K F d v ∧ RepAr K F σ as t from q)
    subst e
    have e : ownA (.val d :: cs) (v :: t) = ownA cs t := by cases v <;> rfl
    rw [e]
    exact lent_nodup r q1 h2 n
  | .slot i :: as, rs, vs, h, q, n => by
    obtain ⟨v, t, e, h1, h2⟩ := (show ∃ v t, vs = v :: t ∧ σ[i]? = some (some v) ∧ RepAr K F σ as t from q)
    subst e
    obtain ⟨n1, n2⟩ := List.nodup_cons.mp (show (i :: slotsOf as).Nodup from n)
    unfold mkArgs at h
    split at h
    · rename_i b o e0
      obtain ⟨cs, q1, q2⟩ := Option.map_eq_some_iff.mp h
      subst q2
      obtain ⟨a, ho, z1, z2, z3, z4, _⟩ := r.own_at e0
      rw [h1] at z1
      cases z1
      refine List.nodup_cons.mpr ⟨fun hm => ?_, lent_nodup r q1 h2 n2⟩
      obtain ⟨k, o', w1, w2⟩ := ownA_mem.mp hm
      obtain ⟨l1, m1⟩ := mkArgs_at q1
      obtain ⟨l2, m2⟩ := repAr_at h2
      have hk : k < as.length := by rw [← l1]; exact (List.getElem?_eq_some_iff.mp w1).1
      cases ek : as[k] with
      | val d =>
        have := (m1 k).1 d (by rw [List.getElem?_eq_getElem hk, ek])
        rw [w1] at this
        cases this
      | slot j =>
        have ea : as[k]? = some (.slot j) := by rw [List.getElem?_eq_getElem hk, ek]
        obtain ⟨b', o2, f1, f2⟩ := (m1 k).2 j ea
        obtain ⟨v', g1, g2⟩ := (m2 k).2 j ea
        rw [w2] at g1
        cases g1
        exact r.dist i j a b o b' o2 (fun e => n1 (by rw [e]; exact slots_at.mpr ⟨k, ea⟩)) e0 f1 h1 g2
    · cases h
theorem setO_at {i j : Nat} {o : O} {s : S} (h : (setO i o ρ)[j]? = some s) : (j ≠ i ∧ ρ[j]? = some s) ∨ (j = i ∧ ∃ b o', ρ[j]? = some (.own b o') ∧ s = .own b o) ∨ (j = i ∧ ρ[j]? = some s ∧ ∀ b o', ρ[j]? ≠ some (.own b o')) := by
  unfold setO at h
  split at h
  · rename_i b o' e
    by_cases z : j = i
    · subst z
      rw [List.getElem?_set_self (List.getElem?_eq_some_iff.mp e).1] at h
      cases h
      exact .inr (.inl ⟨rfl, b, o', e, rfl⟩)
    · rw [List.getElem?_set_ne (Ne.symm z)] at h
      exact .inl ⟨z, h⟩
  · rename_i hn
    by_cases z : j = i
    · subst z
      exact .inr (.inr ⟨rfl, h, fun b o' e => hn b o' e⟩)
    · exact .inl ⟨z, h⟩
theorem setO_len {i : Nat} {o : O} : (setO i o ρ).length = ρ.length := by
  unfold setO
  split
  · rw [List.length_set]
  · rfl
theorem putBack_at : ∀ {as : List Ar} {bs : List R} {ρ : Rho} {j : Nat} {s : S}, (slotsOf as).Nodup → (∀ (k : Nat) (i : Nat), as[k]? = some (.slot i) → (∃ b o, ρ[i]? = some (.own b o)) ∧ ∃ o', bs[k]? = some (.own o')) → as.length = bs.length → (putBack as bs ρ)[j]? = some s →
    (ρ[j]? = some s ∧ j ∉ slotsOf as) ∨ ∃ (k : Nat) (b : Option Nat) (o o' : O), as[k]? = some (.slot j) ∧ ρ[j]? = some (.own b o) ∧ bs[k]? = some (.own o') ∧ s = .own b o'
  | [], bs, ρ, j, s, _, _, _, h => .inl ⟨by cases bs <;> exact h, by simp [slotsOf]⟩
  | .val d :: as, [], _, _, _, _, _, l, _ => by simp at l
  | .slot d :: as, [], _, _, _, _, _, l, _ => by simp at l
  | .val d :: as, b0 :: bs, ρ, j, s, n, q, l, h => by
    have e : putBack (.val d :: as) (b0 :: bs) ρ = putBack as bs ρ := by cases b0 <;> rfl
    rw [e] at h
    rcases putBack_at (as := as) n (fun k i e => by simpa using q (k + 1) i (by simpa using e)) (by simpa using l) h with z | ⟨k, b, o, o', z1, z2, z3, z4⟩
    · exact .inl z
    · exact .inr ⟨k + 1, b, o, o', by simpa using z1, z2, by simpa using z3, z4⟩
  | .slot i :: as, b0 :: bs, ρ, j, s, n, q, l, h => by
    obtain ⟨n1, n2⟩ := List.nodup_cons.mp (show (i :: slotsOf as).Nodup from n)
    obtain ⟨⟨b, o, e0⟩, o', e1⟩ := q 0 i rfl
    simp at e1
    subst e1
    have h' : (putBack as bs (setO i o' ρ))[j]? = some s := h
    have q' : ∀ (k : Nat) (i1 : Nat), as[k]? = some (.slot i1) → (∃ b o, (setO i o' ρ)[i1]? = some (.own b o)) ∧ ∃ o2, bs[k]? = some (.own o2) := fun k i1 e => by
      obtain ⟨⟨b1, o1, e2⟩, o2, e3⟩ := q (k + 1) i1 (by simpa using e)
      have ne : i1 ≠ i := fun z => n1 (by rw [← z]; exact slots_at.mpr ⟨k, e⟩)
      refine ⟨⟨b1, o1, ?_⟩, o2, by simpa using e3⟩
      unfold setO
      rw [e0]
      dsimp only
      rw [List.getElem?_set_ne (Ne.symm ne)]
      exact e2
    rcases putBack_at n2 q' (by simpa using l) h' with ⟨z1, z2⟩ | ⟨k, b1, o1, o2, z1, z2, z3, z4⟩
    · rcases setO_at z1 with ⟨w1, w2⟩ | ⟨w1, b1, o1, w2, w3⟩ | ⟨w1, w2, w3⟩
      · exact .inl ⟨w2, fun hm => (List.mem_cons.mp hm).elim w1 z2⟩
      · subst w1
        exact .inr ⟨0, b1, o1, o', rfl, w2, rfl, w3⟩
      · subst w1
        exact absurd e0 (w3 b o)
    · have ne : j ≠ i := fun z => n1 (by rw [← z]; exact slots_at.mpr ⟨k, z1⟩)
      rcases setO_at z2 with ⟨w1, w2⟩ | ⟨w1, _⟩ | ⟨w1, _⟩
      · exact .inr ⟨k + 1, b1, o1, o2, by simpa using z1, w2, by simpa using z3, z4⟩
      · exact absurd w1 ne
      · exact absurd w1 ne
theorem putBack_len : ∀ {as : List Ar} {bs : List R} {ρ : Rho}, (putBack as bs ρ).length = ρ.length
  | [], bs, ρ => by cases bs <;> rfl
  | .val d :: as, [], ρ => rfl
  | .slot d :: as, [], ρ => rfl
  | .val d :: as, b0 :: bs, ρ => by
    have e : putBack (.val d :: as) (b0 :: bs) ρ = putBack as bs ρ := by cases b0 <;> rfl
    rw [e]; exact putBack_len
  | .slot i :: as, .val d :: bs, ρ => putBack_len (as := as) (bs := bs) (ρ := ρ)
  | .slot i :: as, .own o :: bs, ρ => by
    show (putBack as bs (setO i o ρ)).length = _
    rw [putBack_len, setO_len]
theorem Rel.lent (r : Rel K m F ρ σ H) {as : List Ar} {rs bs : List R} {vs : List V} {F' H' : Hp} (hm : mkArgs as ρ = some rs) (ha : RepAr K F σ as vs) (n : (slotsOf as).Nodup) (p : Post K F H rs vs F' H' bs) : Rel K m F' (putBack as bs ρ) σ H' := by
  obtain ⟨l1, m1⟩ := mkArgs_at hm
  obtain ⟨l2, m2⟩ := repAr_at ha
  have hq : ∀ (k : Nat) (i : Nat), as[k]? = some (.slot i) → (∃ b o, ρ[i]? = some (.own b o)) ∧ ∃ o', bs[k]? = some (.own o') := fun k i e => by
    obtain ⟨b, o, e1, e2⟩ := (m1 k).2 i e
    obtain ⟨a, o', ho, _, z2, _⟩ := p.own k o e2
    exact ⟨⟨b, o, e1⟩, o', z2⟩
  have hl : as.length = bs.length := by rw [p.len, l1]
  -- the lent addresses
  have lent : ∀ a, a ∈ ownA rs vs → ∃ (k j : Nat) (b : Option Nat) (o : O), as[k]? = some (.slot j) ∧ ρ[j]? = some (.own b o) ∧ σ[j]? = some (some (.ref a)) ∧ rs[k]? = some (.own o) ∧ vs[k]? = some (.ref a) := fun a hmem => by
    obtain ⟨k, o', w1, w2⟩ := ownA_mem.mp hmem
    have hk : k < as.length := by rw [← l1]; exact (List.getElem?_eq_some_iff.mp w1).1
    cases ek : as[k] with
    | val d =>
      have := (m1 k).1 d (by rw [List.getElem?_eq_getElem hk, ek])
      rw [w1] at this
      cases this
    | slot j =>
      have ea : as[k]? = some (.slot j) := by rw [List.getElem?_eq_getElem hk, ek]
      obtain ⟨b', o2, f1, f2⟩ := (m1 k).2 j ea
      obtain ⟨v', g1, g2⟩ := (m2 k).2 j ea
      rw [w2] at g1
      cases g1
      rw [w1] at f2
      cases f2
      exact ⟨k, j, b', _, ea, f1, g2, w1, w2⟩
  have back : ∀ {j : Nat} {b : Option Nat} {o : O}, (putBack as bs ρ)[j]? = some (.own b o) → ∃ o1, ρ[j]? = some (.own b o1) := fun {j b o} h => by
    rcases putBack_at n hq hl h with ⟨z, _⟩ | ⟨k, b1, o1, o2, _, z2, _, z4⟩
    · exact ⟨o, z⟩
    · cases z4; exact ⟨o1, z2⟩
  refine ⟨r.sub0.trans p.fz, p.sub, fun c u e nb => ?_, fun a na => ?_, fun a hb => ?_, by rw [putBack_len]; exact r.len, fun j s e => ?_, fun i j a b o b' o' ne e1 e2 e3 e4 => ?_, r.bh⟩
  · refine p.keep c u (r.prot c u e nb) fun hmem => ?_
    obtain ⟨k, j, b, o, _, w2, w3, _⟩ := lent c hmem
    obtain ⟨a', ho, z1, _, _, _, z5⟩ := r.own_at w2
    rw [w3] at z1
    cases z1
    cases b with
    | none => have z6 : m.He c = none := z5; rw [e] at z6; cases z6
    | some k => exact nb (List.mem_of_getElem? z5)
  · rcases p.grow a na with q | q
    · exact r.grow a q
    · exact .inr (r.he_none q)
  · obtain ⟨h1, h2⟩ := r.bor a hb
    by_cases hmem : a ∈ ownA rs vs
    · obtain ⟨k, j, b, o, _, _, _, w4, w5⟩ := lent a hmem
      obtain ⟨a', o', ho, z1, _, z3, _, z5⟩ := p.own k o w4
      rw [w5] at z1
      cases z1
      exact ⟨by rw [z3]; simp, z5⟩
    · cases z : H a with
      | none => exact absurd z h1
      | some u =>
        refine ⟨by rw [p.keep a u z hmem]; simp, ?_⟩
        cases y : F' a with
        | none => rfl
        | some w' =>
          rcases p.grow a (by rw [y]; simp) with q | q
          · exact absurd h2 q
          · rw [z] at q; cases q
  · rcases putBack_at n hq hl e with ⟨z, zn⟩ | ⟨k, b, o, o', z1, z2, z3, z4⟩
    · obtain ⟨ov, h1, h2⟩ := r.slot j s z
      refine ⟨ov, h1, ?_⟩
      cases s with
      | no => trivial
      | exn _ _ => exact h2
      | val d => obtain ⟨v, q1, q2⟩ := h2; exact ⟨v, q1, Rep.mono p.fz _ _ q2⟩
      | own b o =>
        obtain ⟨a, ho, q1, q2, q3, q4, q5⟩ := h2
        subst q1
        have hmem : a ∉ ownA rs vs := fun hmem => by
          obtain ⟨k, j', b', o', w1, w2, w3, _⟩ := lent a hmem
          by_cases ej : j = j'
          · subst ej; exact zn (slots_at.mpr ⟨k, w1⟩)
          · exact r.dist j j' a b o b' o' ej z w2 h1 w3
        refine ⟨a, ho, rfl, p.keep a ho q2 hmem, RepO.mono p.fz q3, ?_, q5⟩
        cases y : F' a with
        | none => rfl
        | some w' =>
          rcases p.grow a (by rw [y]; simp) with q | q
          · exact absurd q4 q
          · rw [q2] at q; cases q
    · subst z4
      obtain ⟨b', o2, f1, f2⟩ := (m1 k).2 j z1
      obtain ⟨v', g1, g2⟩ := (m2 k).2 j z1
      obtain ⟨a, o3, ho, w1, w2, w3, w4, w5⟩ := p.own k o2 f2
      rw [z3] at w2
      cases w2
      rw [g1] at w1
      cases w1
      obtain ⟨a', ho', y1, _, _, _, y5⟩ := r.own_at z2
      rw [g2] at y1
      cases y1
      exact ⟨_, g2, a, ho, rfl, w3, w4, w5, y5⟩
  · obtain ⟨o1, f1⟩ := back e1
    obtain ⟨o2, f2⟩ := back e2
    exact r.dist i j a b o1 b' o2 ne f1 f2 e3 e4
end

/-! ### the calls -/
def tAr (K : PySem.W.Frag) (m : Fm) (W : WX) (g : Rho → Out (List Ar)) : TA := fun σ H Q => tX K m W g (fun as _ F' H' => ∀ vs, RepAr K F' σ as vs → Q vs H') σ H
abbrev DAr (X : Cx) (m : Fm) (W : WX) (es : List Expr) (g : Rho → Out (List Ar)) : Prop := PA X es (tAr X.K m W g)
def arNil : Rho → Out (List Ar) := fun ρ => .ok [] ρ
def arVal (g : Rho → Out D) (gs : Rho → Out (List Ar)) : Rho → Out (List Ar) := fun ρ => (g ρ).bind fun d ρ1 => (gs ρ1).bind fun ds ρ2 => .ok (.val d :: ds) ρ2
def arSlot (i : Nat) (gs : Rho → Out (List Ar)) : Rho → Out (List Ar) := fun ρ => match ρ[i]? with
  | some (.own _ _) => (gs ρ).bind fun ds ρ2 => .ok (.slot i :: ds) ρ2
  | _ => .stuck
def callR (fs : Fs) (ga : Rho → Out (List Ar)) : Rho → Out R := fun ρ => (ga ρ).bind fun as ρ1 => match mkArgs as ρ1 with
  | none => .stuck
  | some rs => if (slotsOf as).Nodup then match fs rs with
      | .ok r bs => .ok r (putBack as bs ρ1)
      | .exc C ns xs bs => .exc C ns xs (putBack as bs ρ1)
      | .stuck => .stuck
    else .stuck
def eFnO (fs : Fs) (ga : Rho → Out (List Ar)) : Rho → Out D := fun ρ => (callR fs ga ρ).bind fun r ρ1 => match r with
  | .val d => .ok d ρ1
  | _ => .stuck
def oFnO (fs : Fs) (ga : Rho → Out (List Ar)) : Rho → Out O := fun ρ => (callR fs ga ρ).bind fun r ρ1 => match r with
  | .own o => .ok o ρ1
  | _ => .stuck
section
variable {X : Cx} {m : Fm} {W : WX}
theorem ar_nil : DAr X m W [] arNil := PA.imp pa_nil fun σ H Q h => by
  obtain ⟨F, ρ, r, a⟩ := h
  exact a F H r (Same.refl _) [] rfl
theorem ar_val {e : Expr} {es : List Expr} {g : Rho → Out D} {gs : Rho → Out (List Ar)} (ha : DE X m W e g) (hr : DAr X m W es gs) (hs : starEach (e :: es) X.env = (false, eval e X.env) :: starEach es X.env := by rfl) : DAr X m W (e :: es) (arVal g gs) := PA.imp (pa_cons ha hr hs) fun σ H Q h => by
  obtain ⟨F, ρ, r, a⟩ := h
  refine ⟨F, ρ, r, (Aft.bind a).imp fun d ρ1 F1 H1 r1 s1 a1 v rv => ⟨F1, ρ1, r1, (Aft.bind a1).imp fun ds ρ2 F2 H2 r2 s2 a2 vs rvs => ?_⟩⟩
  exact a2 F2 H2 r2 (Same.refl _) _ ⟨v, vs, rfl, Rep.mono s2 _ _ rv, rvs⟩
theorem ar_slot (i : Nat) {x : Str} {p : Pos} {es : List Expr} {gs : Rho → Out (List Ar)} (hr : DAr X m W es gs) (hN : X.N[i]? = some x := by rfl) (hv : Vis X.env.scope x := by first | exact Or.inl rfl | exact Or.inr (Or.inl rfl) | exact Or.inr (Or.inr rfl)) (hd : (x == ("__debug__" : Str)) = false := by decide)
    (hcd : (x == ("__classdict__" : Str)) = false := by decide) (hs : starEach (.Name x p :: es) X.env = (false, eval (.Name x p) X.env) :: starEach es X.env := by rfl) : DAr X m W (.Name x p :: es) (arSlot i gs) := PA.imp (pa_cons (pv i hN hv hd hcd) hr hs) fun σ H Q h => by
  obtain ⟨F, ρ, r, a⟩ := h
  unfold arSlot at a
  split at a
  · rename_i b o e
    obtain ⟨c, ho, q1, q2, q3, q4, q5⟩ := r.own_at e
    refine ⟨_, q1, F, ρ, r, (Aft.bind a).imp fun ds ρ2 F2 H2 r2 s2 a2 vs rvs => ?_⟩
    exact a2 F2 H2 r2 (Same.refl _) _ ⟨_, vs, rfl, q1, rvs⟩
  · exact a.elim
/-- the promise of a call with lent arguments -/
theorem lent_of {fs : Fs} {ga : Rho → Out (List Ar)} {σ : St} {H : Hp} {Q : VK} (h : tX X.K m W (callR fs ga) (fun r ρ' F' H' => ∀ v, (match r with | .val d => Rep X.K F' d v | .own o => ∃ p ho, v = .ref p ∧ Aside m F' ρ' σ H' p ho ∧ RepO X.K F' o ho) → Q v H') σ H) : tCallS (spF X.K fs) (WE W) (tAr X.K m W ga) σ H Q := by
  obtain ⟨F, ρ, r, a⟩ := h
  refine ⟨F, ρ, r, (Aft.bind a).imp fun as ρ1 F1 H1 r1 s1 a1 vs rvs => ?_⟩
  cases em : mkArgs as ρ1 with
  | none => rw [em] at a1; exact a1.elim
  | some rs =>
    rw [em] at a1
    dsimp only at a1
    split at a1
    · rename_i n
      refine ⟨F1, rs, r1.sub, args_lent r1 em rvs, lent_nodup r1 em rvs n, ?_⟩
      cases e : fs rs with
      | stuck => rw [e] at a1; exact a1
      | exc C ns xs bs =>
        rw [e] at a1
        exact fun F' H' dd p x => a1 F' H' dd (r1.lent em rvs n p) p.fz (x.he fun _ n => r1.he_none n)
      | ok rr bs =>
        rw [e] at a1
        intro F' H' v p rv
        have r2 := r1.lent em rvs n p
        refine a1 F' H' r2 p.fz v ?_
        cases rr with
        | val d => exact rv
        | own o =>
          obtain ⟨c, ho, z1, z2, z3, z4, z5⟩ := rv
          refine ⟨c, ho, z1, ⟨z2, z4, r1.he_none z5, fun hb => (r1.bor c hb).1 z5, fun j b o' w1 w2 => ?_⟩, z3⟩
          obtain ⟨l1, m1⟩ := mkArgs_at em
          have hq : ∀ (k : Nat) (i : Nat), as[k]? = some (.slot i) → (∃ b o, ρ1[i]? = some (.own b o)) ∧ ∃ o', bs[k]? = some (.own o') := fun k i e => by
            obtain ⟨b, o, e1, e2⟩ := (m1 k).2 i e
            obtain ⟨a', o', ho, _, y2, _⟩ := p.own k o e2
            exact ⟨⟨b, o, e1⟩, o', y2⟩
          have own1 : ∃ o1, ρ1[j]? = some (.own b o1) := by
            rcases putBack_at n hq (by rw [p.len, l1]) w1 with ⟨y, _⟩ | ⟨k, b1, o1, o2, _, y2, _, y4⟩
            · exact ⟨_, y⟩
            · cases y4; exact ⟨o1, y2⟩
          obtain ⟨o1, y⟩ := own1
          obtain ⟨c', hc, q1, q2, _⟩ := r1.own_at y
          rw [w2] at q1
          cases q1
          rw [z5] at q2
          cases q2
    · exact a1.elim
theorem d_callO {k j : Nat} {fs : Fs} {x : Str} {e : Expr} {es : List Expr} {ga : Rho → Out (List Ar)} {p pos : Pos} (c : Cal X.prog X.w X.K X.mg X.base x k fs) (hr : Room j X.A) (tk : Takes X W) (ha : DAr X m W (e :: es) ga) (hk : k ≤ j := by decide) (hg : Gl X x := by rfl)
    (hdb : (x == ("__debug__" : Str)) = false := by decide) (he : starEach (e :: es) X.env = (false, eval e X.env) :: starEach es X.env := by rfl) (hpl : (backTo pos (starEach es X.env)).any (·.1) = false := by rfl) :
    DE X m W (.Call (.Name x p) (e :: es) [] pos) (eFnO fs ga) := by
  obtain ⟨f, fd, ps, h1, h2, h3, h4⟩ := c.ex
  refine PE.imp (pe_callS h4 (hr.mono hk) hg h1 h2 h3 (fun σ => passAt tk σ) ha hdb he hpl) fun σ H Q q => lent_of ?_
  obtain ⟨F, ρ, r, a⟩ := q
  refine ⟨F, ρ, r, (Aft.bind a).imp fun rr ρ1 F1 H1 r1 s1 a1 v rv => ?_⟩
  cases rr with
  | val d => exact a1 F1 H1 r1 (Same.refl _) v rv
  | own o => exact a1.elim
theorem o_callO {k j : Nat} {fs : Fs} {x : Str} {e : Expr} {es : List Expr} {ga : Rho → Out (List Ar)} {p pos : Pos} (c : Cal X.prog X.w X.K X.mg X.base x k fs) (hr : Room j X.A) (tk : Takes X W) (ha : DAr X m W (e :: es) ga) (hk : k ≤ j := by decide) (hg : Gl X x := by rfl)
    (hdb : (x == ("__debug__" : Str)) = false := by decide) (he : starEach (e :: es) X.env = (false, eval e X.env) :: starEach es X.env := by rfl) (hpl : (backTo pos (starEach es X.env)).any (·.1) = false := by rfl) :
    DEO X m W (.Call (.Name x p) (e :: es) [] pos) (oFnO fs ga) := by
  obtain ⟨f, fd, ps, h1, h2, h3, h4⟩ := c.ex
  refine PE.imp (pe_callS h4 (hr.mono hk) hg h1 h2 h3 (fun σ => passAt tk σ) ha hdb he hpl) fun σ H Q q => lent_of ?_
  obtain ⟨F, ρ, r, a⟩ := q
  refine ⟨F, ρ, r, (Aft.bind a).imp fun rr ρ1 F1 H1 r1 s1 a1 v rv => ?_⟩
  cases rr with
  | val d => exact a1.elim
  | own o =>
    obtain ⟨c, ho, e, z1, z2⟩ := rv
    subst e
    exact a1 F1 H1 r1 (Same.refl _) c ho z1 z2
end
end Lt

/-! # Short names for the rules; what is walked, further -/
namespace Lt
open PySem PySem.Spec L2

section
variable {X : Cx} {m : Fm} {W : WX} {a b c : Expr} {ga gb gc : Rho → Out D} {pos : Pos}
theorem e_add (ha : DE X m W a ga) (hb : DE X m W b gb) : DE X m W (.BinOp a .Add b pos) (eBin addD ga gb) := d_op or_add od_add ha hb
theorem e_sub (ha : DE X m W a ga) (hb : DE X m W b gb) : DE X m W (.BinOp a .Sub b pos) (eBin subD ga gb) := d_op op_sub od_sub ha hb
theorem e_mul (ha : DE X m W a ga) (hb : DE X m W b gb) : DE X m W (.BinOp a .Mult b pos) (eBin mulD ga gb) := d_op or_mul od_mul ha hb
theorem e_fdiv (ha : DE X m W a ga) (hb : DE X m W b gb) : DE X m W (.BinOp a .FloorDiv b pos) (eBin fdivD ga gb) := d_op op_fdivW od_fdiv ha hb
theorem e_mod (ha : DE X m W a ga) (hb : DE X m W b gb) : DE X m W (.BinOp a .Mod b pos) (eBin modD ga gb) := d_op op_mod od_mod ha hb
theorem e_pow (ha : DE X m W a ga) (hb : DE X m W b gb) : DE X m W (.BinOp a .Pow b pos) (eBin powD ga gb) := d_op op_pow od_pow ha hb
abbrev ltD : D → D → Option D := cmpI fun i j => decide (i < j)
abbrev leD : D → D → Option D := cmpI fun i j => decide (i ≤ j)
abbrev gtD : D → D → Option D := cmpI fun i j => decide (j < i)
abbrev geD : D → D → Option D := cmpI fun i j => decide (j ≤ i)
theorem e_lt (ha : DE X m W a ga) (hb : DE X m W b gb) : DE X m W (.Compare a [.Lt] [b] pos) (eBin ltD ga gb) := d_cmp op_lt od_cmpI ha hb
theorem e_le (ha : DE X m W a ga) (hb : DE X m W b gb) : DE X m W (.Compare a [.LtE] [b] pos) (eBin leD ga gb) := d_cmp op_le od_cmpI ha hb
theorem e_gt (ha : DE X m W a ga) (hb : DE X m W b gb) : DE X m W (.Compare a [.Gt] [b] pos) (eBin gtD ga gb) := d_cmp op_gt od_cmpI ha hb
theorem e_ge (ha : DE X m W a ga) (hb : DE X m W b gb) : DE X m W (.Compare a [.GtE] [b] pos) (eBin geD ga gb) := d_cmp op_ge od_cmpI ha hb
theorem e_eq {j : Nat} (hr : Room j X.A) (ha : DE X m W a ga) (hb : DE X m W b gb) : DE X m W (.Compare a [.Eq] [b] pos) (eBin eqD ga gb) := d_cmp (op_eqD hr.units) od_eq ha hb
theorem e_ne {j : Nat} (hr : Room j X.A) (ha : DE X m W a ga) (hb : DE X m W b gb) : DE X m W (.Compare a [.NotEq] [b] pos) (eBin neD ga gb) := d_cmp (op_neD hr.units) od_ne ha hb
theorem e_in (ha : DE X m W a ga) (hb : DE X m W b gb) (hm : behindInMarks .In b = false := by first | exact nobehind _ (by decide) (by decide) | rfl) : DE X m W (.Compare a [.In] [b] pos) (eBin (inD false) ga gb) := d_cmp op_in_seq od_in ha hb hm
theorem e_notIn (ha : DE X m W a ga) (hb : DE X m W b gb) (hm : behindInMarks .NotIn b = false := by first | exact nobehind _ (by decide) (by decide) | rfl) : DE X m W (.Compare a [.NotIn] [b] pos) (eBin (inD true) ga gb) := d_cmp op_notIn_seq od_in ha hb hm
theorem e_is (ha : DE X m W a ga) (hb : DE X m W b gb) : DE X m W (.Compare a [.Is] [b] pos) (eBin (isN false) ga gb) := d_cmp op_isN od_isN ha hb
theorem e_isNot (ha : DE X m W a ga) (hb : DE X m W b gb) : DE X m W (.Compare a [.IsNot] [b] pos) (eBin (isN true) ga gb) := d_cmp op_notN od_notN ha hb
theorem t_lt (ha : DE X m W a ga) (hb : DE X m W b gb) : DT X m W (.Compare a [.Lt] [b] pos) (eTest (eBin ltD ga gb)) := d_testcmp op_lt od_cmpI ha hb
theorem t_le (ha : DE X m W a ga) (hb : DE X m W b gb) : DT X m W (.Compare a [.LtE] [b] pos) (eTest (eBin leD ga gb)) := d_testcmp op_le od_cmpI ha hb
theorem t_gt (ha : DE X m W a ga) (hb : DE X m W b gb) : DT X m W (.Compare a [.Gt] [b] pos) (eTest (eBin gtD ga gb)) := d_testcmp op_gt od_cmpI ha hb
theorem t_ge (ha : DE X m W a ga) (hb : DE X m W b gb) : DT X m W (.Compare a [.GtE] [b] pos) (eTest (eBin geD ga gb)) := d_testcmp op_ge od_cmpI ha hb
theorem t_eq {j : Nat} (hr : Room j X.A) (ha : DE X m W a ga) (hb : DE X m W b gb) : DT X m W (.Compare a [.Eq] [b] pos) (eTest (eBin eqD ga gb)) := d_testcmp (op_eqD hr.units) od_eq ha hb
theorem t_ne {j : Nat} (hr : Room j X.A) (ha : DE X m W a ga) (hb : DE X m W b gb) : DT X m W (.Compare a [.NotEq] [b] pos) (eTest (eBin neD ga gb)) := d_testcmp (op_neD hr.units) od_ne ha hb
theorem t_in (ha : DE X m W a ga) (hb : DE X m W b gb) (hm : behindInMarks .In b = false := by first | exact nobehind _ (by decide) (by decide) | rfl) : DT X m W (.Compare a [.In] [b] pos) (eTest (eBin (inD false) ga gb)) := d_testcmp op_in_seq od_in ha hb hm
theorem t_notIn (ha : DE X m W a ga) (hb : DE X m W b gb) (hm : behindInMarks .NotIn b = false := by first | exact nobehind _ (by decide) (by decide) | rfl) : DT X m W (.Compare a [.NotIn] [b] pos) (eTest (eBin (inD true) ga gb)) := d_testcmp op_notIn_seq od_in ha hb hm
theorem t_is (ha : DE X m W a ga) (hb : DE X m W b gb) : DT X m W (.Compare a [.Is] [b] pos) (eTest (eBin (isN false) ga gb)) := d_testcmp op_isN od_isN ha hb
theorem t_isNot (ha : DE X m W a ga) (hb : DE X m W b gb) : DT X m W (.Compare a [.IsNot] [b] pos) (eTest (eBin (isN true) ga gb)) := d_testcmp op_notN od_notN ha hb
theorem e_lele (ha : DE X m W a ga) (hb : DE X m W b gb) (hc : DE X m W c gc) (hm : lastMarks [CmpOp.LtE, CmpOp.LtE] [b, c] = false := by with_unfolding_all rfl) : DE X m W (.Compare a [.LtE, .LtE] [b, c] pos) (eChain leD leD ga gb gc) := d_chain op_le od_cmpI op_le od_cmpI ha hb hc hm
end
/-! what is walked: a list or a tuple; zip of two lists or two tuples -/
def zipD : List D → Option (List D)
  | [.lst xs, .lst ys] => some (xs.zip ys |>.map fun p => .tup [p.1, p.2])
  | [.tup xs, .tup ys] => some (xs.zip ys |>.map fun p => .tup [p.1, p.2])
  | _ => none
def iZip (gs : Rho → Out (List D)) : Rho → Out (List D) := fun ρ => (gs ρ).bind fun ds ρ1 => lift (zipD ds) ρ1
theorem zip_none {α β : Type} {xs : List α} {ys : List β} {i : Nat} (h : (xs.zip ys).length ≤ i) : xs.length ≤ i ∨ ys.length ≤ i := by
  rw [List.length_zip] at h
  omega
section
variable {K : PySem.W.Frag} {F H : Hp}
theorem pair_rep {F' : Hp} {T : Addr} {d e : D} {x y : V} (s2 : Same F' H) (n : H T = none) (h1 : Rep K F' d x) (h2 : Rep K F' e y) : Rep K (upd F' T (.tup [x, y])) (.tup [d, e]) (.ref T) := by
  have nf : F' T = none := by
    cases z : F' T with
    | none => rfl
    | some u => rw [s2 _ _ z] at n; cases n
  have s : Same F' (upd F' T (.tup [x, y])) := fun b u h => by rw [upd_ne (ne_of_none h nf)]; exact h
  exact ⟨T, _, rfl, SqT.of upd_same, x, [y], rfl, Rep.mono s _ _ h1, y, [], rfl, Rep.mono s _ _ h2, rfl⟩
theorem itok_zipL {a b : Addr} {ds es : List D} {xs ys : List V} (h1 : F a = some (.lst xs)) (h2 : Reps K F ds xs) (h3 : F b = some (.lst ys)) (h4 : Reps K F es ys) : ItOk K (Itz K a b) F (ds.zip es |>.map fun p => .tup [p.1, p.2]) := by
  intro i F' H s1 s2
  have q1 : SqL K H a xs := SqL.of (s2 _ _ (s1 _ _ h1))
  have q2 : SqL K H b ys := SqL.of (s2 _ _ (s1 _ _ h3))
  refine ⟨fun d hd => ?_, fun hl => ⟨xs, ys, q1, q2, ?_⟩⟩
  · rw [List.getElem?_map] at hd
    obtain ⟨⟨d1, d2⟩, e1, e2⟩ := Option.map_eq_some_iff.mp hd
    subst e2
    have e3 := List.getElem?_zip_eq_some.mp e1
    obtain ⟨x, hx, rx⟩ := h2.at e3.1
    obtain ⟨y, hy, ry⟩ := h4.at e3.2
    refine ⟨⟨xs, ys, x, y, q1, q2, hx, hy⟩, fun v H' hv => ?_⟩
    obtain ⟨T, x', y', e4, n, e5, z1, z2⟩ := hv
    have w1 := z1 xs q1
    have w2 := z2 ys q2
    rw [hx] at w1
    rw [hy] at w2
    cases w1
    cases w2
    subst e4
    exact .inr (.inl ⟨T, _, n, e5, pair_rep s2 n (Rep.mono s1 _ _ rx) (Rep.mono s1 _ _ ry)⟩)
  · rw [List.length_map] at hl
    rw [h2.len, h4.len]
    exact zip_none hl
theorem itok_zipT {a b : Addr} {ds es : List D} {xs ys : List V} (h1 : SqT K F a xs) (h2 : Reps K F ds xs) (h3 : SqT K F b ys) (h4 : Reps K F es ys) : ItOk K (RZ.ItzT K a b) F (ds.zip es |>.map fun p => .tup [p.1, p.2]) := by
  intro i F' H s1 s2
  have q1 : SqT K H a xs := Same.seqT s2 (Same.seqT s1 h1)
  have q2 : SqT K H b ys := Same.seqT s2 (Same.seqT s1 h3)
  refine ⟨fun d hd => ?_, fun hl => ⟨xs, ys, q1, q2, ?_⟩⟩
  · rw [List.getElem?_map] at hd
    obtain ⟨⟨d1, d2⟩, e1, e2⟩ := Option.map_eq_some_iff.mp hd
    subst e2
    have e3 := List.getElem?_zip_eq_some.mp e1
    obtain ⟨x, hx, rx⟩ := h2.at e3.1
    obtain ⟨y, hy, ry⟩ := h4.at e3.2
    refine ⟨⟨xs, ys, x, y, q1, q2, hx, hy⟩, fun v H' hv => ?_⟩
    obtain ⟨T, x', y', e4, n, e5, z1, z2⟩ := hv
    have w1 := z1 xs q1
    have w2 := z2 ys q2
    rw [hx] at w1
    rw [hy] at w2
    cases w1
    cases w2
    subst e4
    exact .inr (.inl ⟨T, _, n, e5, pair_rep s2 n (Rep.mono s1 _ _ rx) (Rep.mono s1 _ _ ry)⟩)
  · rw [List.length_map] at hl
    rw [h2.len, h4.len]
    exact zip_none hl
end
section
variable {X : Cx} {m : Fm} {W : WX} {tg : Expr}
theorem i_seq {e : Expr} {g : Rho → Out D} (he : DE X m W e g) : DI X m W tg e (iSeq g) := ⟨fun pins s σ H Rr I q => by
  obtain ⟨F, ρ, r, a⟩ := q
  unfold iSeq at a
  cases e1 : g ρ with
  | stuck => rw [e1] at a; exact a.elim
  | exc C ns ds ρ1 =>
    rw [e1] at a
    exact (i_list he).run pins s σ H Rr I ⟨F, ρ, r, by dsimp only; rw [e1]; exact a⟩
  | ok d ρ1 =>
    rw [e1] at a
    cases d <;> try exact a.elim
    · exact (i_tup he).run pins s σ H Rr I ⟨F, ρ, r, by dsimp only; rw [e1]; exact a⟩
    · exact (i_list he).run pins s σ H Rr I ⟨F, ρ, r, by dsimp only; rw [e1]; exact a⟩⟩
theorem i_zip {e e2 : Expr} {gs : Rho → Out (List D)} {p pos tpos : Pos} {elts : List Expr} {kk : Nat} (hm : X.mg "zip" = none) (ha : DL X m W [e, e2] gs) (hg : Gl X "zip" := by rfl)
    (hs : starEach [e, e2] X.env = (false, eval e X.env) :: starEach [e2] X.env := by rfl) (hpl : (backTo pos (starEach [e2] X.env)).any (·.1) = false := by rfl) : DI X m W (.Tuple elts kk tpos) (.Call (.Name "zip" p) [e, e2] [] pos) (iZip gs) :=
  PI.imp (RZ.pi_zipA hg hm ha hs hpl) fun σ H Rr h => by
    obtain ⟨F, ρ, r, a⟩ := h
    refine ⟨F, ρ, r, (Aft.bind a).imp fun ds ρ1 F1 H1 r1 s1 a1 vs rvs => ?_⟩
    obtain ⟨zs, e, q⟩ := Aft.lift a1
    unfold zipD at e
    split at e <;> cases e
    · obtain ⟨v, w, rfl, h1, h2⟩ := rvs.two'
      obtain ⟨p, vs, rfl, g1, g2⟩ := h1
      obtain ⟨p', vs', rfl, g3, g4⟩ := h2
      exact ⟨p, p', vs, vs', rfl, .inl ⟨SqL.of (r1.sub _ _ g1), SqL.of (r1.sub _ _ g3), q F1 H1 r1 (Same.refl _) _ (itok_zipL g1 g2 g3 g4)⟩⟩
    · obtain ⟨v, w, rfl, h1, h2⟩ := rvs.two'
      obtain ⟨p, vs, rfl, g1, g2⟩ := h1
      obtain ⟨p', vs', rfl, g3, g4⟩ := h2
      exact ⟨p, p', vs, vs', rfl, .inr ⟨Same.seqT r1.sub g1, Same.seqT r1.sub g3, q F1 H1 r1 (Same.refl _) _ (itok_zipT g1 g2 g3 g4)⟩⟩
end
/-! a, b = a list of two -/
def gPairL (g h : D → Rho → Option Rho) : D → Rho → Option Rho := fun d ρ => match d with
  | .lst [a, b] => (g a ρ).bind (h b)
  | _ => none
theorem g_pairL {X : Cx} {m : Fm} {a b : Expr} {k : Nat} {pos : Pos} {g h : D → Rho → Option Rho} (hc : X.calm = true) (ha : DG X m a g) (hb : DG X m b h)
    (hs : (assignEach [a, b] X.env).map (·.2) = assign a X.env :: (assignEach [b] X.env).map (·.2) := by rfl) (hs2 : (assignEach [b] X.env).map (·.2) = assign b X.env :: (assignEach [] X.env).map (·.2) := by rfl)
    (hn : (assignEach [a, b] X.env).length = 2 := by rfl) (hst : (assignEach [a, b] X.env).findIdx? (·.1) = none := by rfl) : DG X m (.Tuple [a, b] k pos) (gPairL g h) :=
  PG.imp (pg_unl hc (pgs_cons ha (pgs_cons hb pgs_nil hs2) hs) hn hst) fun v σ H Q q => by
    obtain ⟨F, ρ, d, r, rv, q⟩ := q
    cases hq : gPairL g h d ρ with
    | none => rw [hq] at q; exact q.elim
    | some ρ' =>
      rw [hq] at q
      unfold gPairL at hq
      split at hq
      · rename_i a1 b1
        obtain ⟨ρ1, e1, e2⟩ := Option.bind_eq_some_iff.mp hq
        obtain ⟨p, vs, rfl, h1, h2⟩ := r.lstOf rv
        obtain ⟨x, y, rfl, h3, h4⟩ := h2.two'
        refine ⟨p, _, rfl, SqL.of h1, rfl, x, [y], rfl, ⟨F, ρ, a1, r, h3, ?_⟩⟩
        rw [e1]
        refine fun σ1 r1 => ⟨y, [], rfl, F, ρ1, b1, r1, h4, ?_⟩
        rw [e2]
        exact fun σ2 r2 => ⟨rfl, q σ2 r2⟩
      · cases hq
end Lt

/-! # a, b = .. with new objects -/
namespace Lt
open PySem PySem.Spec L2

def RepN (K : PySem.W.Frag) (m : Fm) (F : Hp) (ρ : Rho) (σ : St) (H : Hp) : List R → List V → Prop
  | [], vs => vs = []
  | .val d :: r, vs => ∃ v t, vs = v :: t ∧ Rep K F d v ∧ RepN K m F ρ σ H r t
  | .own o :: r, vs => ∃ p ho t, vs = .ref p :: t ∧ Aside m F ρ σ H p ho ∧ RepO K F o ho ∧ RepN K m F ρ σ H r t
theorem RepN.len {K : PySem.W.Frag} {m : Fm} {F : Hp} {ρ : Rho} {σ : St} {H : Hp} : ∀ {rs : List R} {vs : List V}, RepN K m F ρ σ H rs vs → vs.length = rs.length
  | [], vs, h => by cases (show vs = [] from h); rfl
  | .val d :: r, vs, h => by
    obtain ⟨v, t, e, _, h2⟩ := (show ∃ v t, vs = v :: t ∧ Rep K F d v ∧ RepN K m F ρ σ H r t from h)
    subst e; simp [RepN.len h2]
  | .own o :: r, vs, h => by
    obtain ⟨p, ho, t, e, _, _, h2⟩ := (show ∃ p ho t, vs = .ref p :: t ∧ Aside m F ρ σ H p ho ∧ RepO K F o ho ∧ RepN K m F ρ σ H r t from h)
    subst e; simp [RepN.len h2]
def tN (K : PySem.W.Frag) (m : Fm) (W : WX) (g : Rho → Out (List R)) : TA := fun σ H Q => tX K m W g (fun rs ρ' F' H' => ∀ vs, RepN K m F' ρ' σ H' rs vs → (ownA rs vs).Nodup → Q vs H') σ H
abbrev DN (X : Cx) (W : WX) (es : List Expr) (g : Rho → Out (List R)) : Prop := ∀ m, PA X es (tN X.K m W g)
def nNil : Rho → Out (List R) := fun ρ => .ok [] ρ
def nVal (g : Rho → Out D) (gs : Rho → Out (List R)) : Rho → Out (List R) := fun ρ => (g ρ).bind fun d ρ1 => (gs ρ1).bind fun rs ρ2 => .ok (.val d :: rs) ρ2
def nOwn (g : Rho → Out O) (gs : Rho → Out (List R)) : Rho → Out (List R) := fun ρ => (g ρ).bind fun o ρ1 => (gs ρ1).bind fun rs ρ2 => .ok (.own o :: rs) ρ2
def setR (i : Nat) (r : R) (ρ : Rho) : Rho := ρ.set i (match r with | .val d => .val d | .own o => .own none o)
def setRs : List Nat → List R → Rho → Rho
  | i :: is, r :: rs, ρ => setRs is rs (setR i r ρ)
  | _, _, ρ => ρ
def sParN (is : List Nat) (gs : Rho → Out (List R)) : Rho → Fl := fun ρ => (gs ρ).fl fun rs ρ1 => if rs.length = is.length then .nx (setRs is rs ρ1) else .stuck
section
variable {X : Cx} {m : Fm} {W : WX} {K : PySem.W.Frag}
theorem unput {F : Hp} {ρ : Rho} {σ : St} {H : Hp} {p q : Addr} {ho hq : HO} (a : Aside (m.put p ho) F ρ σ H q hq) : q ≠ p ∧ Aside m F ρ σ H q hq := by
  have ne : q ≠ p := fun e => by
    subst e
    have z : upd m.He q ho q = none := a.he
    rw [upd_same] at z
    cases z
  refine ⟨ne, a.at_, a.fz, ?_, a.nb, a.ns⟩
  have z : upd m.He p ho q = none := a.he
  rw [upd_ne ne] at z
  exact z
theorem unputs {F : Hp} {ρ : Rho} {σ : St} {H : Hp} {p : Addr} {ho : HO} : ∀ {rs : List R} {vs : List V}, RepN K (m.put p ho) F ρ σ H rs vs → RepN K m F ρ σ H rs vs ∧ p ∉ ownA rs vs
  | [], vs, h => ⟨h, by cases (show vs = [] from h); simp [ownA]⟩
  | .val d :: r, vs, h => by
    obtain ⟨v, t, e, h1, h2⟩ := (show ∃ v t, vs = v :: t ∧ Rep K F d v ∧ RepN K (m.put p ho) F ρ σ H r t from h)
    subst e
    obtain ⟨q1, q2⟩ := unputs h2
    exact ⟨⟨v, t, rfl, h1, q1⟩, q2⟩
  | .own o :: r, vs, h => by
    obtain ⟨q, hq, t, e, h1, h3, h2⟩ := (show ∃ q hq t, vs = .ref q :: t ∧ Aside (m.put p ho) F ρ σ H q hq ∧ RepO K F o hq ∧ RepN K (m.put p ho) F ρ σ H r t from h)
    subst e
    obtain ⟨q1, q2⟩ := unputs h2
    obtain ⟨n, a⟩ := unput h1
    refine ⟨⟨q, hq, t, rfl, a, h3, q1⟩, ?_⟩
    show p ∉ q :: ownA r t
    simp [q2, Ne.symm n]
theorem n_nil : DN X W [] nNil := fun m => PA.imp pa_nil fun σ H Q h => by
  obtain ⟨F, ρ, r, a⟩ := h
  exact a F H r (Same.refl _) [] rfl List.nodup_nil
theorem n_val {e : Expr} {es : List Expr} {g : Rho → Out D} {gs : Rho → Out (List R)} (ha : ∀ m, DE X m W e g) (hr : DN X W es gs) (hs : starEach (e :: es) X.env = (false, eval e X.env) :: starEach es X.env := by rfl) : DN X W (e :: es) (nVal g gs) := fun m => PA.imp (pa_cons (ha m) (hr m) hs) fun σ H Q h => by
  obtain ⟨F, ρ, r, a⟩ := h
  refine ⟨F, ρ, r, (Aft.bind a).imp fun d ρ1 F1 H1 r1 s1 a1 v rv => ⟨F1, ρ1, r1, (Aft.bind a1).imp fun ds ρ2 F2 H2 r2 s2 a2 vs rvs nd => ?_⟩⟩
  exact a2 F2 H2 r2 (Same.refl _) _ ⟨v, vs, rfl, Rep.mono s2 _ _ rv, rvs⟩ nd
theorem n_own {e : Expr} {es : List Expr} {g : Rho → Out O} {gs : Rho → Out (List R)} (ha : ∀ m, DEO X m W e g) (hr : DN X W es gs) (hs : starEach (e :: es) X.env = (false, eval e X.env) :: starEach es X.env := by rfl) : DN X W (e :: es) (nOwn g gs) := fun m => by
  have hr' : PA X es (fun σ H Q => ∃ m, tN X.K m W gs σ H Q) := ⟨fun pos pins s σ H Q I ⟨m, q⟩ => (hr m).run pos pins s σ H Q I q⟩
  refine PA.imp (pa_cons (ha m) hr' hs) fun σ H Q h => ?_
  obtain ⟨F, ρ, r, a⟩ := h
  refine ⟨F, ρ, r, (Aft.bind a).imp fun o ρ1 F1 H1 r1 s1 a1 p ho as ro => ⟨m.put p ho, F1, ρ1, r1.aside as, ?_⟩⟩
  have h0 : m.F0 p = none := by
    cases z : m.F0 p with
    | none => rfl
    | some u => have := r1.sub0 _ _ z; rw [as.fz] at this; cases this
  cases e1 : gs ρ1 with
  | stuck => rw [e1] at a1; exact a1.elim
  | exc C ns ds ρ' => rw [e1] at a1; exact fun F' H' dd r' s' x => a1 F' H' dd (r'.unaside as.he as.nb h0).1 s' (x.he fun _ n => Fm.put_none as.he n)
  | ok rs ρ' =>
    rw [e1, bind_ok] at a1
    intro F' H' r' s' vs rvs nd
    obtain ⟨r2, a2⟩ := r'.unaside as.he as.nb h0
    obtain ⟨q1, q2⟩ := unputs rvs
    exact a1 F' H' r2 s' _ ⟨p, ho, vs, rfl, a2, RepO.mono s' ro, q1⟩ (List.nodup_cons.mpr ⟨q2, nd⟩)
/-- one of them is stored -/
theorem RepN.stored {F : Hp} {ρ : Rho} {σ : St} {H : Hp} {i : Nat} {s : S} {v : V} (hs : ∀ b o, s = .own b o → ∃ p, v = .ref p) : ∀ {rs : List R} {vs : List V}, (∀ p, v = .ref p → (∃ b o, s = .own b o) → p ∉ ownA rs vs) → RepN K m F ρ σ H rs vs → RepN K m F (ρ.set i s) (σ.set i (some v)) H rs vs
  | [], _, _, h => h
  | .val d :: r, vs, n, h => by
    obtain ⟨u, t, e, h1, h2⟩ := (show ∃ v t, vs = v :: t ∧ Rep K F d v ∧ RepN K m F ρ σ H r t from h)
    subst e
    exact ⟨u, t, rfl, h1, RepN.stored hs (fun p e z => n p e z) h2⟩
  | .own o :: r, vs, n, h => by
    obtain ⟨q, hq, t, e, h1, h3, h2⟩ := (show ∃ q hq t, vs = .ref q :: t ∧ Aside m F ρ σ H q hq ∧ RepO K F o hq ∧ RepN K m F ρ σ H r t from h)
    subst e
    refine ⟨q, hq, t, rfl, ⟨h1.at_, h1.fz, h1.he, h1.nb, fun j b o' e1 e2 => ?_⟩, h3, RepN.stored hs (fun p e z w => n p e z (List.mem_cons_of_mem _ w)) h2⟩
    by_cases c : j = i
    · subst c
      have hl : j < ρ.length := by
        by_cases hl : j < ρ.length
        · exact hl
        · rw [List.getElem?_eq_none (by simpa using hl)] at e1; cases e1
      rw [List.getElem?_set_self hl] at e1
      cases e1
      obtain ⟨p, e3⟩ := hs _ _ rfl
      subst e3
      by_cases hl2 : j < σ.length
      · rw [List.getElem?_set_self hl2] at e2
        cases e2
        exact n q rfl ⟨_, _, rfl⟩ List.mem_cons_self
      · rw [List.getElem?_eq_none (by simpa using hl2)] at e2; cases e2
    · rw [List.getElem?_set_ne (Ne.symm c)] at e1 e2
      exact h1.ns j b o' e1 e2
theorem Rel.storeN {F : Hp} {ρ : Rho} {σ : St} {H : Hp} (r : Rel K m F ρ σ H) (i : Nat) {rr : R} {rs : List R} {vs : List V} (h : RepN K m F ρ σ H (rr :: rs) vs) (nd : (ownA (rr :: rs) vs).Nodup) : ∃ v t, vs = v :: t ∧ Rel K m F (setR i rr ρ) (σ.set i (some v)) H ∧ RepN K m F (setR i rr ρ) (σ.set i (some v)) H rs t ∧ (ownA rs t).Nodup := by
  cases rr with
  | val d =>
    obtain ⟨v, t, e, h1, h2⟩ := (show ∃ v t, vs = v :: t ∧ Rep K F d v ∧ RepN K m F ρ σ H rs t from h)
    subst e
    exact ⟨v, t, rfl, r.store i (s := .val d) ⟨v, rfl, h1⟩ (fun _ _ _ _ _ z => by cases z), RepN.stored (fun _ _ z => by cases z) (fun _ _ ⟨_, _, z⟩ => by cases z) h2, nd⟩
  | own o =>
    obtain ⟨q, hq, t, e, h1, h3, h2⟩ := (show ∃ q hq t, vs = .ref q :: t ∧ Aside m F ρ σ H q hq ∧ RepO K F o hq ∧ RepN K m F ρ σ H rs t from h)
    subst e
    have nd' : (q :: ownA rs t).Nodup := nd
    obtain ⟨n1, n2⟩ := List.nodup_cons.mp nd'
    exact ⟨_, t, rfl, r.storeO i h1 h3, RepN.stored (fun _ _ _ => ⟨q, rfl⟩) (fun p e _ => by cases e; exact n1) h2, n2⟩
theorem s_parN {i j : Nat} {x y : Str} {a b : Expr} {gs : Rho → Out (List R)} {px py pt : Pos} {kt k2 pt2} {pos : Pos} (hc : X.calm = true) (hN : X.N.Nodup) (hi : X.N[i]? = some x) (hj : X.N[j]? = some y) (hij : i ≠ j)
    (hx : X.env.scope.names.lookup x = some .local) (hy : X.env.scope.names.lookup y = some .local) (ha : DN X W [a, b] gs)
    (hw : swappedStores [.Tuple [.Name x px, .Name y py] kt pt] (.Tuple [a, b] k2 pt2) X.env = pure (some [x, y]))
    (hs : swapsWithSole [.Tuple [.Name x px, .Name y py] kt pt] (.Tuple [a, b] k2 pt2) pos.line X.env = pure false := by rfl) :
    DS X m W (.Assign [.Tuple [.Name x px, .Name y py] kt pt] (.Tuple [a, b] k2 pt2) pos) (sParN [i, j] gs) := PS.imp (ps_par hc hN hi hj hij hx hy (ha m) hw hs) fun Dn σ H h => by
  obtain ⟨F, ρ, r, a⟩ := h
  refine ⟨F, ρ, r, (Aft.fl a).imp fun rs ρ1 F1 H1 r1 s1 a1 vs rvs nd => ?_⟩
  split at a1
  · rename_i hl
    match rs, hl with
    | [ra, rb], _ =>
      obtain ⟨v, t, e, r2, rvs2, nd2⟩ := r1.storeN i rvs nd
      obtain ⟨w, u, e2, r3, rvs3, _⟩ := r2.storeN j rvs2 nd2
      cases (show u = [] from rvs3)
      subst e2
      exact ⟨v, w, e, a1 F1 _ H1 r3 (Same.refl _)⟩
  · exact a1.elim
theorem s_par3N {i j l : Nat} {x y z : Str} {a b c : Expr} {gs : Rho → Out (List R)} {px py pz pt : Pos} {kt k2 pt2} {pos : Pos} (hc : X.calm = true) (hN : X.N.Nodup) (hi : X.N[i]? = some x) (hj : X.N[j]? = some y) (hl : X.N[l]? = some z) (hij : i ≠ j) (hil : i ≠ l) (hjl : j ≠ l)
    (hx : X.env.scope.names.lookup x = some .local) (hy : X.env.scope.names.lookup y = some .local) (hz : X.env.scope.names.lookup z = some .local) (ha : DN X W [a, b, c] gs)
    (hw : swappedStores [.Tuple [.Name x px, .Name y py, .Name z pz] kt pt] (.Tuple [a, b, c] k2 pt2) X.env = pure (some [x, y, z]))
    (hs : swapsWithSole [.Tuple [.Name x px, .Name y py, .Name z pz] kt pt] (.Tuple [a, b, c] k2 pt2) pos.line X.env = pure false := by rfl) :
    DS X m W (.Assign [.Tuple [.Name x px, .Name y py, .Name z pz] kt pt] (.Tuple [a, b, c] k2 pt2) pos) (sParN [i, j, l] gs) := PS.imp (ps_par3 hc hN hi hj hl hij hil hjl hx hy hz (ha m) hw hs) fun Dn σ H h => by
  obtain ⟨F, ρ, r, a⟩ := h
  refine ⟨F, ρ, r, (Aft.fl a).imp fun rs ρ1 F1 H1 r1 s1 a1 vs rvs nd => ?_⟩
  split at a1
  · rename_i hl
    match rs, hl with
    | [ra, rb, rc], _ =>
      obtain ⟨v, t, e, r2, rvs2, nd2⟩ := r1.storeN i rvs nd
      obtain ⟨w, u, e2, r3, rvs3, nd3⟩ := r2.storeN j rvs2 nd2
      obtain ⟨y', u', e3, r4, rvs4, _⟩ := r3.storeN l rvs3 nd3
      cases (show u' = [] from rvs4)
      subst e3
      subst e2
      exact ⟨v, w, y', e, a1 F1 _ H1 r4 (Same.refl _)⟩
  · exact a1.elim
theorem t_inO {neg : Bool} {op : CmpOp} {a : Expr} {ga : Rho → Out D} (i : Nat) {x : Str} {p pos : Pos} (ho : OpR X (compareOp op) (rIn X.K neg)) (ha : DE X m W a ga) (hN : X.N[i]? = some x := by rfl) (hv : Vis X.env.scope x := by first | exact Or.inl rfl | exact Or.inr (Or.inl rfl) | exact Or.inr (Or.inr rfl)) (hd : (x == ("__debug__" : Str)) = false := by decide)
    (hcd : (x == ("__classdict__" : Str)) = false := by decide) (hm : behindInMarks op (.Name x p) = false := by rfl) : DT X m W (.Compare a [op] [.Name x p] pos) (eTest (eInO neg ga i)) := PT.imp (pt_cmpR ho ha (pv i hN hv hd hcd) hm) fun σ H Q h => test_of (fun σ H Q h => by
  obtain ⟨F, ρ, r, a⟩ := h
  refine ⟨F, ρ, r, (Aft.bind a).imp fun d ρ1 F1 H1 r1 s1 a1 v rv => ?_⟩
  cases e1 : lstAt i ρ1 with
  | none => rw [e1] at a1; exact a1.elim
  | some ds =>
    rw [e1] at a1
    obtain ⟨c, xs, q1, q2, q3, _⟩ := r1.lstOwn e1
    obtain ⟨z, hz, q⟩ := Aft.lift a1
    unfold inD at hz
    dsimp only at hz
    split at hz <;> cases hz
    rename_i hf
    obtain ⟨i1, i2⟩ := inV_rep hf.1 rv hf.2 q3
    refine ⟨_, q1, c, xs, rfl, .inl (SqL.of q2), flat_rep hf.1 rv, i1, ?_⟩
    rw [i2]
    exact q F1 H1 r1 (Same.refl _) _ rfl) h
end
/-! the promises of defs of so many parameters -/
def P1 (g : D → ResP) : PFs | [a] => g a | _ => .stuck
def P2 (g : D → D → ResP) : PFs | [a, b] => g a b | _ => .stuck
def P3 (g : D → D → D → ResP) : PFs | [a, b, c] => g a b c | _ => .stuck
def P4 (g : D → D → D → D → ResP) : PFs | [a, b, c, d] => g a b c d | _ => .stuck
def P5 (g : D → D → D → D → D → ResP) : PFs | [a, b, c, d, e] => g a b c d e | _ => .stuck
theorem P1.len {g : D → ResP} : ∀ ds, P1 g ds ≠ .stuck → ds.length = 1
  | [_], _ => rfl
  | [], h => absurd rfl h
  | _ :: _ :: _, h => absurd rfl h
theorem P2.len {g : D → D → ResP} : ∀ ds, P2 g ds ≠ .stuck → ds.length = 2
  | [_, _], _ => rfl
  | [], h => absurd rfl h
  | [_], h => absurd rfl h
  | _ :: _ :: _ :: _, h => absurd rfl h
theorem P3.len {g : D → D → D → ResP} : ∀ ds, P3 g ds ≠ .stuck → ds.length = 3
  | [_, _, _], _ => rfl
  | [], h => absurd rfl h
  | [_], h => absurd rfl h
  | [_, _], h => absurd rfl h
  | _ :: _ :: _ :: _ :: _, h => absurd rfl h
theorem P4.len {g : D → D → D → D → ResP} : ∀ ds, P4 g ds ≠ .stuck → ds.length = 4
  | [_, _, _, _], _ => rfl
  | [], h => absurd rfl h
  | [_], h => absurd rfl h
  | [_, _], h => absurd rfl h
  | [_, _, _], h => absurd rfl h
  | _ :: _ :: _ :: _ :: _ :: _, h => absurd rfl h
theorem P5.len {g : D → D → D → D → D → ResP} : ∀ ds, P5 g ds ≠ .stuck → ds.length = 5
  | [_, _, _, _, _], _ => rfl
  | [], h => absurd rfl h
  | [_], h => absurd rfl h
  | [_, _], h => absurd rfl h
  | [_, _, _], h => absurd rfl h
  | [_, _, _, _], h => absurd rfl h
  | _ :: _ :: _ :: _ :: _ :: _ :: _, h => absurd rfl h
end Lt

/-! # Reading outcome terms -/
namespace Lt
open PySem PySem.Spec L2

section
variable {α : Type} {ρ : Rho} {i j : Nat} {d : D} {o : O} {b : Option Nat} {f f' : D → D → Option D} {h : D → Option D} {k : List D → Option D} {ga gb gc : Rho → Out D} {gs : Rho → Out (List D)} {t u : Rho → Out Bool} {s s' : Rho → Fl} {gt gt' : D → Rho → Option Rho}
def rdS (s : Option S) (ρ : Rho) : Out D := match s with
  | some (.val d) => .ok d ρ
  | _ => .stuck
@[simp] theorem rd_S : rdS (some (.val d)) ρ = .ok d ρ := (rfl)
@[simp] theorem rd_var : eVar i ρ = rdS (ρ[i]?) ρ := (rfl)
@[simp] theorem rd_c : eC d ρ = .ok d ρ := (rfl)
@[simp] theorem rd_bin : eBin f ga gb ρ = (ga ρ).bind fun a ρ1 => (gb ρ1).bind fun b ρ2 => lift (f a b) ρ2 := (rfl)
@[simp] theorem rd_test : eTest ga ρ = (ga ρ).bind fun d ρ1 => lift (toB d) ρ1 := (rfl)
@[simp] theorem rd_toB (b : Bool) : toB (.bl b) = some b := (rfl)
@[simp] theorem rd_un : eUn h ga ρ = (ga ρ).bind fun d ρ1 => lift (h d) ρ1 := (rfl)
@[simp] theorem rd_aNil : aNil ρ = .ok [] ρ := (rfl)
@[simp] theorem rd_aCons : aCons ga gs ρ = (ga ρ).bind fun d ρ1 => (gs ρ1).bind fun ds ρ2 => .ok (d :: ds) ρ2 := (rfl)
theorem size_le {n : Nat} (h : n ≤ 16777216) : n ≤ sizeLine := by rw [sizeLine_eq]; exact h
@[simp] theorem rd_tup : eTup gs ρ = (gs ρ).bind fun ds ρ1 => lift (if ds.length ≤ sizeLine then some (D.tup ds) else none) ρ1 := (rfl)
@[simp] theorem rd_lst : eLst gs ρ = (gs ρ).bind fun ds ρ1 => lift (if ds.length ≤ sizeLine then some (D.lst ds) else none) ρ1 := (rfl)
@[simp] theorem rd_sz0 : 0 ≤ sizeLine := Nat.zero_le _
@[simp] theorem rd_sz1 : 0 + 1 ≤ sizeLine := size_le (by decide)
@[simp] theorem rd_sz1' : 1 ≤ sizeLine := size_le (by decide)
@[simp] theorem rd_sz2 : 0 + 1 + 1 ≤ sizeLine := size_le (by decide)
@[simp] theorem rd_sz2' : 2 ≤ sizeLine := size_le (by decide)
@[simp] theorem rd_sz3 : 0 + 1 + 1 + 1 ≤ sizeLine := size_le (by decide)
@[simp] theorem rd_sz3' : 3 ≤ sizeLine := size_le (by decide)
@[simp] theorem rd_sz4' : 4 ≤ sizeLine := size_le (by decide)
@[simp] theorem rd_sz5' : 5 ≤ sizeLine := size_le (by decide)
@[simp] theorem rd_sz6' : 6 ≤ sizeLine := size_le (by decide)
@[simp] theorem rd_call : eCall k gs ρ = (gs ρ).bind fun ds ρ1 => lift (k ds) ρ1 := (rfl)
@[simp] theorem rd_fn {fs : PFs} : eFn fs gs ρ = (gs ρ).bind fun ds ρ1 => match fs ds with
  | .ok (.val d) => .ok d ρ1
  | .exc C ns xs => .exc C ns xs ρ1
  | _ => .stuck := (rfl)
@[simp] theorem rd_and : eAnd ga gb ρ = (ga ρ).bind fun d ρ1 => match d with
  | .bl b => if b = true then gb ρ1 else .ok (.bl false) ρ1
  | _ => .stuck := (rfl)
@[simp] theorem rd_or : eOr ga gb ρ = (ga ρ).bind fun d ρ1 => match d with
  | .bl b => if b = true then .ok (.bl true) ρ1 else gb ρ1
  | _ => .stuck := (rfl)
@[simp] theorem rd_not : eNot ga ρ = (ga ρ).bind fun d ρ1 => match d with
  | .bl b => .ok (.bl (!b)) ρ1
  | _ => .stuck := (rfl)
@[simp] theorem rd_if : eIf t ga gb ρ = (t ρ).bind fun b ρ1 => if b = true then ga ρ1 else gb ρ1 := (rfl)
@[simp] theorem rd_chain : eChain f f' ga gb gc ρ = (ga ρ).bind fun a ρ1 => (gb ρ1).bind fun b ρ2 => (lift (f a b) ρ2).bind fun z ρ3 => match z with
  | .bl k => if k = true then (gc ρ3).bind fun c ρ4 => lift (f' b c) ρ4 else .ok (.bl false) ρ3
  | _ => .stuck := (rfl)
@[simp] theorem rd_band : bAnd t u ρ = (t ρ).bind fun b ρ1 => if b = true then u ρ1 else .ok false ρ1 := (rfl)
@[simp] theorem rd_bor : bOr t u ρ = (t ρ).bind fun b ρ1 => if b = true then .ok true ρ1 else u ρ1 := (rfl)
@[simp] theorem rd_bnot : bNot t ρ = (t ρ).bind fun b ρ1 => .ok (!b) ρ1 := (rfl)
@[simp] theorem rd_isi {T : String} : eIsi T ga ρ = (ga ρ).bind fun d ρ1 => lift (isiD T d) ρ1 := (rfl)
@[simp] theorem rd_oNone : oNone ρ = .ok none ρ := (rfl)
@[simp] theorem rd_oSome : oSome ga ρ = (ga ρ).bind fun d ρ1 => lift (toPart d) ρ1 := (rfl)
@[simp] theorem rd_part (i : Int) : toPart (.int i) = some (some i) := (rfl)
@[simp] theorem rd_slice {l h : Rho → Out (Option Int)} : eSlice ga l h ρ = (ga ρ).bind fun d ρ1 => (l ρ1).bind fun lo ρ2 => (h ρ2).bind fun hi ρ3 => lift (sliceD d lo hi) ρ3 := (rfl)
@[simp] theorem rd_iseq : iSeq ga ρ = (ga ρ).bind fun d ρ1 => lift (toItems d) ρ1 := (rfl)
@[simp] theorem rd_items_l (ds : List D) : toItems (.lst ds) = some ds := (rfl)
@[simp] theorem rd_items_t (ds : List D) : toItems (.tup ds) = some ds := (rfl)
@[simp] theorem rd_izip : iZip gs ρ = (gs ρ).bind fun ds ρ1 => lift (zipD ds) ρ1 := (rfl)
@[simp] theorem rd_rng1 : iRng1D gs ρ = (gs ρ).bind fun ds ρ1 => match ds with
  | [.int j] => if -(2 ^ 62) ≤ j ∧ j < 2 ^ 62 then .ok (iRange 0 j) ρ1 else .stuck
  | _ => .stuck := (rfl)
@[simp] theorem rd_rng2 : iRng2D gs ρ = (gs ρ).bind fun ds ρ1 => match ds with
  | [.int i, .int j] => if (-(2 ^ 62) ≤ i ∧ i < 2 ^ 62) ∧ -(2 ^ 62) ≤ j ∧ j < 2 ^ 62 then .ok (iRange i j) ρ1 else .stuck
  | _ => .stuck := (rfl)
/-- what follows a step -/
def seqK (r : Fl) (k : Rho → Fl) : Fl := match r with
  | .nx ρ' => k ρ'
  | r => r
@[simp] theorem seqK_nx {k : Rho → Fl} : seqK (.nx ρ) k = k ρ := (rfl)
@[simp] theorem seqK_rt {k : Rho → Fl} {r : R} : seqK (.rt r ρ) k = .rt r ρ := (rfl)
@[simp] theorem seqK_bk {k : Rho → Fl} : seqK (.bk ρ) k = .bk ρ := (rfl)
@[simp] theorem seqK_ct {k : Rho → Fl} : seqK (.ct ρ) k = .ct ρ := (rfl)
@[simp] theorem seqK_exc {k : Rho → Fl} {C : Addr} {ns : List Str} {ds : List D} : seqK (.exc C ns ds ρ) k = .exc C ns ds ρ := (rfl)
@[simp] theorem seqK_stuck {k : Rho → Fl} : seqK .stuck k = .stuck := (rfl)
@[simp] theorem rd_seq : sSeq s s' ρ = seqK (s ρ) s' := (rfl)
@[simp] theorem rd_next : sNext ρ = .nx ρ := (rfl)
@[simp] theorem rd_never : sNever ρ = .stuck := (rfl)
@[simp] theorem rd_break : sBreak ρ = .bk ρ := (rfl)
@[simp] theorem rd_set : sSet i ga ρ = (ga ρ).fl fun d ρ1 => .nx (ρ1.set i (.val d)) := (rfl)
@[simp] theorem rd_par : sPar i j gs ρ = (gs ρ).fl fun ds ρ1 => match ds with
  | [d, e] => .nx ((ρ1.set i (.val d)).set j (.val e))
  | _ => .stuck := (rfl)
@[simp] theorem rd_ret : sRet ga ρ = (ga ρ).fl fun d ρ1 => .rt (.val d) ρ1 := (rfl)
@[simp] theorem rd_retN : sRetN ρ = .rt (.val .non) ρ := (rfl)
@[simp] theorem rd_expr : sExpr ga ρ = (ga ρ).fl fun _ ρ1 => .nx ρ1 := (rfl)
@[simp] theorem rd_sif : sIf t s s' ρ = (t ρ).fl fun b ρ1 => if b = true then s ρ1 else s' ρ1 := (rfl)
@[simp] theorem rd_asg : sAsg ga gt ρ = (ga ρ).fl fun d ρ1 => match gt d ρ1 with
  | some ρ2 => .nx ρ2
  | none => .stuck := (rfl)
@[simp] theorem rd_gset : gSet i d ρ = some (ρ.set i (.val d)) := (rfl)
@[simp] theorem rd_gpair {a c : D} : gPair gt gt' (.tup [a, c]) ρ = (gt a ρ).bind (gt' c) := (rfl)
@[simp] theorem rd_gpairL {a c : D} : gPairL gt gt' (.lst [a, c]) ρ = (gt a ρ).bind (gt' c) := (rfl)
@[simp] theorem rd_for : sFor gs gt s ρ = (gs ρ).fl fun ds ρ1 => forD gt s ds ρ1 := (rfl)
@[simp] theorem rd_for0 : forD gt s [] ρ = .nx ρ := (rfl)
theorem rd_forC {ds : List D} : forD gt s (d :: ds) ρ = match gt d ρ with
    | none => .stuck
    | some ρ1 => match s ρ1 with
      | .nx ρ2 => forD gt s ds ρ2
      | .ct ρ2 => forD gt s ds ρ2
      | .bk ρ2 => .nx ρ2
      | .rt a ρ2 => .rt a ρ2
      | .exc C ns xs ρ2 => .exc C ns xs ρ2
      | .stuck => .stuck := rfl
@[simp] theorem rd_finrt {r : R} : finP (.rt r ρ) = .ok r := (rfl)
@[simp] theorem rd_finnx : finP (.nx ρ) = .ok (.val .non) := (rfl)
@[simp] theorem rd_finexc {C : Addr} {ns : List Str} {ds : List D} : finP (.exc C ns ds ρ) = .exc C ns ds := (rfl)
@[simp] theorem rd_lc {vs : List Nat} {gi : Rho → Out (List D)} : eLcQ vs gi gt t ga ρ = (gi ρ).bind fun ds ρ1 => match lcD vs gt t ga ds [] ρ1 with
  | .ok d ρ2 => .ok d ρ2
  | _ => .stuck := (rfl)
@[simp] theorem rd_yes : tYesD ρ = .ok true ρ := (rfl)
@[simp] theorem rd_clr0 : clr ρ [] = ρ := (rfl)
@[simp] theorem rd_clr1 {v : Nat} {vs : List Nat} : clr ρ (v :: vs) = (clr ρ vs).set v .no := (rfl)
/-! operations -/
@[simp] theorem rd_add (i j : Int) : addD (.int i) (.int j) = some (.int (i + j)) := (rfl)
@[simp] theorem rd_sub (i j : Int) : subD (.int i) (.int j) = some (.int (i - j)) := (rfl)
@[simp] theorem rd_mul (i j : Int) : mulD (.int i) (.int j) = if i.natAbs.log2 + j.natAbs.log2 < 1000000 then some (.int (i * j)) else none := (rfl)
@[simp] theorem rd_fdiv (i j : Int) : fdivD (.int i) (.int j) = if 0 < j ∧ j.natAbs.log2 < 9000 then some (.int (i / j)) else none := (rfl)
@[simp] theorem rd_mod (i j : Int) : modD (.int i) (.int j) = if 0 < j then some (.int (i % j)) else none := (rfl)
@[simp] theorem rd_cmp (p : Int → Int → Bool) (i j : Int) : cmpI p (.int i) (.int j) = some (.bl (p i j)) := (rfl)
@[simp] theorem rd_neg (i : Int) : negD (.int i) = some (.int (-i)) := (rfl)
@[simp] theorem rd_abs (i : Int) : absD [.int i] = some (.int (if i < 0 then -i else i)) := (rfl)
@[simp] theorem rd_lenT (ds : List D) : lenD [.tup ds] = some (.int ds.length) := (rfl)
@[simp] theorem rd_lenL (ds : List D) : lenD [.lst ds] = some (.int ds.length) := (rfl)
@[simp] theorem rd_lenS (ds : List Int) : lenD [.scr ds] = some (.int ds.length) := (rfl)
@[simp] theorem rd_intI (i : Int) : intD [.int i] = some (.int i) := (rfl)
@[simp] theorem rd_intB (b : Bool) : intD [.bl b] = some (.int (if b then 1 else 0)) := (rfl)
@[simp] theorem rd_max2 (i j : Int) : max2D [.int i, .int j] = some (.int (if j > i then j else i)) := (rfl)
@[simp] theorem rd_min2 (i j : Int) : min2D [.int i, .int j] = some (.int (if j < i then j else i)) := (rfl)
@[simp] theorem rd_listT (ds : List D) : listD [.tup ds] = some (.lst ds) := (rfl)
@[simp] theorem rd_listL (ds : List D) : listD [.lst ds] = some (.lst ds) := (rfl)
@[simp] theorem rd_tupleT (ds : List D) : tupleD [.tup ds] = some (.tup ds) := (rfl)
@[simp] theorem rd_tupleL (ds : List D) : tupleD [.lst ds] = some (.tup ds) := (rfl)
@[simp] theorem rd_sumL (ds : List D) : sumA [.lst ds] = (asInts ds).map fun ns => .int ns.sum := (rfl)
@[simp] theorem rd_sumT (ds : List D) : sumA [.tup ds] = (asInts ds).map fun ns => .int ns.sum := (rfl)
@[simp] theorem rd_allL (ds : List D) : allD [.lst ds] = (asBls ds).map fun bs => .bl (bs.all id) := (rfl)
@[simp] theorem rd_anyL (ds : List D) : anyD [.lst ds] = (asBls ds).map fun bs => .bl (bs.any id) := (rfl)
@[simp] theorem rd_ixT (ds : List D) (i : Int) : ixD (.tup ds) (.int i) = atI ds i := (rfl)
@[simp] theorem rd_ixL (ds : List D) (i : Int) : ixD (.lst ds) (.int i) = atI ds i := (rfl)
@[simp] theorem rd_ixS (ds : List Int) (i : Int) : ixD (.scr ds) (.int i) = (atI ds i).map .int := (rfl)
@[simp] theorem rd_revT (ds : List D) : revD (.tup ds) = some (.tup ds.reverse) := (rfl)
@[simp] theorem rd_revL (ds : List D) : revD (.lst ds) = some (.lst ds.reverse) := (rfl)
@[simp] theorem rd_slT (ds : List D) (l h : Option Int) : sliceD (.tup ds) l h = some (.tup (cutD ds l h)) := (rfl)
@[simp] theorem rd_slL (ds : List D) (l h : Option Int) : sliceD (.lst ds) l h = some (.lst (cutD ds l h)) := (rfl)
@[simp] theorem rd_zipL (xs ys : List D) : zipD [.lst xs, .lst ys] = some ((xs.zip ys).map fun p => .tup [p.1, p.2]) := (rfl)
@[simp] theorem rd_zipT (xs ys : List D) : zipD [.tup xs, .tup ys] = some ((xs.zip ys).map fun p => .tup [p.1, p.2]) := (rfl)
/-- the i-th of a list, counted from the front -/
theorem atI_nat {α : Type} {xs : List α} {i : Int} (h : 0 ≤ i) : atI xs i = xs[i.toNat]? := by
  unfold atI ixN
  rw [if_pos h]
  by_cases c : i < xs.length
  · rw [if_pos c]; rfl
  · rw [if_neg c, List.getElem?_eq_none (by omega)]; rfl
@[simp] theorem atI_0 {α : Type} {x : α} {xs : List α} : atI (x :: xs) 0 = some x := by rw [atI_nat (by decide)]; rfl
@[simp] theorem atI_1 {α : Type} {x y : α} {xs : List α} : atI (x :: y :: xs) 1 = some y := by rw [atI_nat (by decide)]; rfl
@[simp] theorem atI_2 {α : Type} {x y z : α} {xs : List α} : atI (x :: y :: z :: xs) 2 = some z := by rw [atI_nat (by decide)]; rfl
@[simp] theorem atI_3 {α : Type} {x y z u : α} {xs : List α} : atI (x :: y :: z :: u :: xs) 3 = some u := by rw [atI_nat (by decide)]; rfl
end
/-! equality of data -/
def shp : Nat → D → Bool
  | _, .non => true
  | _, .bl _ => true
  | _, .int _ => true
  | _, .str x => PyData.strOk x
  | n + 1, .tup ds => ds.all (shp n)
  | n + 1, .lst ds => ds.all (shp n)
  | _, _ => false
theorem shp_ok : ∀ {n : Nat} {d : D}, shp n d = true → (toP d).canLay0 = true ∧ (toP d).depth ≤ n := by
  intro n
  induction n with
  | zero =>
    intro d h
    cases d <;> simp [shp] at h <;> simp [toP, PyData.canLay0, PyData.depth, h]
  | succ n ih =>
    intro d h
    have all : ∀ ds : List D, ds.all (shp n) = true → PyData.canLayAll0 (toPs ds) = true ∧ PyData.depthAll (toPs ds) ≤ n := by
      intro ds
      induction ds with
      | nil => intro _; simp [toPs, PyData.canLayAll0, PyData.depthAll]
      | cons d ds ih2 =>
        intro h
        rw [List.all_cons, Bool.and_eq_true] at h
        obtain ⟨a1, a2⟩ := ih h.1
        obtain ⟨b1, b2⟩ := ih2 h.2
        simp only [toPs, PyData.canLayAll0, PyData.depthAll, a1, b1, Bool.and_self, true_and]
        omega
    cases d
    case tup ds =>
      obtain ⟨a, b⟩ := all ds h
      simp only [toP, PyData.canLay0, PyData.depth, a, true_and]
      omega
    case lst ds =>
      obtain ⟨a, b⟩ := all ds h
      simp only [toP, PyData.canLay0, PyData.depth, a, true_and]
      omega
    all_goals simp [shp] at h
    all_goals simp [toP, PyData.canLay0, PyData.depth, h]
theorem okP_shp {n : Nat} {d : D} (h : shp n d = true) (hn : n ≤ 64) : okP d = true := by
  obtain ⟨a, b⟩ := shp_ok h
  unfold okP SeqAt.shaped
  rw [a, Bool.true_and]
  exact decide_eq_true (Nat.le_trans b hn)
@[simp] theorem okP_int (i : Int) : okP (.int i) = true := okP_shp (n := 0) rfl (by decide)
@[simp] theorem okP_bl (i : Bool) : okP (.bl i) = true := okP_shp (n := 0) rfl (by decide)
@[simp] theorem okP_non : okP .non = true := okP_shp (n := 0) rfl (by decide)
@[simp] theorem eqB_int (i j : Int) : eqB (.int i) (.int j) = decide (i = j) := by
  unfold eqB; simp only [toP, PyData.eqv]; exact Bool.eq_iff_iff.mpr (by simp)
@[simp] theorem eqB_str (i j : Str) : eqB (.str i) (.str j) = decide (i = j) := by
  unfold eqB; simp only [toP, PyData.eqv]; exact Bool.eq_iff_iff.mpr (by simp)
theorem eqB_tup (xs ys : List D) : eqB (.tup xs) (.tup ys) = eqB (.lst xs) (.lst ys) := by unfold eqB; simp only [toP, PyData.eqv]
@[simp] theorem eqB_nil : eqB (.lst []) (.lst []) = true := (rfl)
@[simp] theorem eqB_cons (x y : D) (xs ys : List D) : eqB (.lst (x :: xs)) (.lst (y :: ys)) = (eqB x y && eqB (.lst xs) (.lst ys)) := by
  unfold eqB; simp only [toP, toPs, PyData.eqv, PyData.eqvAll]
@[simp] theorem eqB_nc (y : D) (ys : List D) : eqB (.lst []) (.lst (y :: ys)) = false := by unfold eqB; simp only [toP, toPs, PyData.eqv, PyData.eqvAll]
@[simp] theorem eqB_cn (y : D) (ys : List D) : eqB (.lst (y :: ys)) (.lst []) = false := by unfold eqB; simp only [toP, toPs, PyData.eqv, PyData.eqvAll]
theorem eqB_map {α : Type} [DecidableEq α] (f : α → D) (hf : ∀ a b, eqB (f a) (f b) = decide (a = b)) : ∀ (xs ys : List α), eqB (.lst (xs.map f)) (.lst (ys.map f)) = decide (xs = ys)
  | [], [] => by simp
  | [], y :: ys => by simp
  | x :: xs, [] => by simp
  | x :: xs, y :: ys => by
    rw [List.map_cons, List.map_cons, eqB_cons, hf, eqB_map f hf xs ys]
    by_cases h1 : x = y <;> by_cases h2 : xs = ys <;> simp [h1, h2]
theorem rd_eq {a b : D} (ha : okP a = true) (hb : okP b = true) : eqD a b = some (.bl (eqB a b)) := by unfold eqD; rw [if_pos ⟨ha, hb⟩]
theorem rd_ne {a b : D} (ha : okP a = true) (hb : okP b = true) : neD a b = some (.bl (!eqB a b)) := by unfold neD; rw [if_pos ⟨ha, hb⟩]
theorem okP_lst {n : Nat} {ds : List D} (h : ds.all (shp n) = true) (hn : n ≤ 63) : okP (.lst ds) = true := okP_shp (n := n + 1) h (by omega)
theorem okP_tup {n : Nat} {ds : List D} (h : ds.all (shp n) = true) (hn : n ≤ 63) : okP (.tup ds) = true := okP_shp (n := n + 1) h (by omega)
/-- x in a list of ints -/
theorem inB_ints (i : Int) (ns : List Int) : inB (.int i) (ns.map D.int) = decide (i ∈ ns) := by
  unfold inB
  induction ns with
  | nil => simp
  | cons n ns ih =>
    rw [List.map_cons, List.any_cons, ih, eqB_int]
    by_cases h : n = i
    · subst h; simp
    · simp [h, Ne.symm h]
theorem flat_ints (ns : List Int) : (ns.map D.int).all flatD = true := by
  rw [List.all_map]; simp [Function.comp_def, flatD]
theorem rd_in (neg : Bool) (i : Int) (ns : List Int) : inD neg (.int i) (.lst (ns.map D.int)) = some (.bl (if neg then !decide (i ∈ ns) else decide (i ∈ ns))) := by
  unfold inD
  dsimp only
  rw [if_pos ⟨rfl, flat_ints ns⟩, inB_ints]
theorem rd_inT (neg : Bool) (i : Int) (ns : List Int) : inD neg (.int i) (.tup (ns.map D.int)) = some (.bl (if neg then !decide (i ∈ ns) else decide (i ∈ ns))) := by
  unfold inD
  dsimp only
  rw [if_pos ⟨rfl, flat_ints ns⟩, inB_ints]
end Lt

/-! # Loops and comprehensions read -/
namespace Lt
open PySem PySem.Spec L2
section
variable {α : Type} {vs : List Nat} {gt : D → Rho → Option Rho} {t : Rho → Out Bool} {ge : Rho → Out D} {body : Rho → Fl} {c : Rho}
theorem lcD_by (e : α → D) (S : α → Rho) (p : α → Bool) (f : α → D) : ∀ (as : List α) (acc : List D) (ρ' : Rho), clr ρ' vs = c → (∀ a ∈ as, gt (e a) c = some (S a) ∧ t (S a) = .ok (p a) (S a) ∧ (p a = true → ge (S a) = .ok (f a) (S a)) ∧ clr (S a) vs = c) →
    acc.length + as.length ≤ sizeLine → lcD vs gt t ge (as.map e) acc ρ' = .ok (.lst (acc ++ (as.filter p).map f)) c
  | [], acc, ρ', h, _, _ => by
    rw [List.map_nil, lcD, h]
    simp
  | a :: as, acc, ρ', h, q, hl => by
    obtain ⟨h1, h2, h3, h4⟩ := q a List.mem_cons_self
    rw [List.map_cons, lcD, h, h1]
    dsimp only
    rw [h2, bind_ok]
    rw [List.length_cons] at hl
    cases hp : p a with
    | false =>
      rw [if_neg (by simp), lcD_by e S p f as acc (S a) h4 (fun b hb => q b (List.mem_cons_of_mem _ hb)) (by omega), List.filter_cons, if_neg (by simp [hp])]
    | true =>
      rw [if_pos rfl, h3 hp, bind_ok, if_pos (by omega), lcD_by e S p f as (acc ++ [f a]) (S a) h4 (fun b hb => q b (List.mem_cons_of_mem _ hb)) (by rw [List.length_append, List.length_singleton]; omega), List.filter_cons, if_pos hp]
      simp
/-- without a test -/
theorem lcD_all (e : α → D) (S : α → Rho) (f : α → D) (as : List α) (ρ' : Rho) (h : clr ρ' vs = c) (q : ∀ a ∈ as, gt (e a) c = some (S a) ∧ ge (S a) = .ok (f a) (S a) ∧ clr (S a) vs = c)
    (hl : as.length ≤ sizeLine) : lcD vs gt tYesD ge (as.map e) [] ρ' = .ok (.lst (as.map f)) c := by
  have := lcD_by (t := tYesD) e S (fun _ => true) f as [] ρ' h (fun a ha => ⟨(q a ha).1, rfl, fun _ => (q a ha).2.1, (q a ha).2.2⟩) (by simpa using hl)
  rw [this, List.filter_eq_self.mpr (by simp), List.nil_append]
theorem forD_inv (e : α → D) (R : List α → Rho → Prop) {as : List α} (step : ∀ (done : List α) (a : α) (rest : List α) (ρ : Rho), as = done ++ a :: rest → R done ρ → ∃ ρ1 ρ2, gt (e a) ρ = some ρ1 ∧ body ρ1 = .nx ρ2 ∧ R (done ++ [a]) ρ2) :
    ∀ (rest done : List α) (ρ : Rho), as = done ++ rest → R done ρ → ∃ ρ', forD gt body (rest.map e) ρ = .nx ρ' ∧ R as ρ'
  | [], done, ρ, h, r => ⟨ρ, rfl, by rw [h, List.append_nil]; exact r⟩
  | a :: rest, done, ρ, h, r => by
    obtain ⟨ρ1, ρ2, h1, h2, h3⟩ := step done a rest ρ h r
    obtain ⟨ρ', q1, q2⟩ := forD_inv e R step rest (done ++ [a]) ρ2 (by rw [h]; simp) h3
    exact ⟨ρ', by rw [List.map_cons, rd_forC, h1]; dsimp only; rw [h2]; exact q1, q2⟩
theorem for_inv (e : α → D) (R : List α → Rho → Prop) (as : List α) {ρ : Rho} (h0 : R [] ρ) (step : ∀ (done : List α) (a : α) (rest : List α) (ρ : Rho), as = done ++ a :: rest → R done ρ → ∃ ρ1 ρ2, gt (e a) ρ = some ρ1 ∧ body ρ1 = .nx ρ2 ∧ R (done ++ [a]) ρ2) :
    ∃ ρ', forD gt body (as.map e) ρ = .nx ρ' ∧ R as ρ' := forD_inv e R step as [] ρ rfl h0
/-- a loop that may hand back a value: it does not -/
theorem iRange_map (lo hi : Int) : iRange lo hi = ((List.range (hi - lo).toNat).map fun i => lo + (i : Nat)).map D.int := by
  unfold iRange; rw [List.map_map]; rfl
end
/-- the ints lo, .., hi - 1 -/
def rng (lo hi : Int) : List Int := (List.range (hi - lo).toNat).map fun i => lo + (i : Nat)
theorem iRange_rng (lo hi : Int) : iRange lo hi = (rng lo hi).map D.int := iRange_map lo hi
theorem mem_rng {lo hi x : Int} : x ∈ rng lo hi ↔ lo ≤ x ∧ x < hi := by
  unfold rng
  rw [List.mem_map]
  constructor
  · rintro ⟨i, h, rfl⟩
    have := List.mem_range.mp h
    omega
  · rintro ⟨h1, h2⟩
    exact ⟨(x - lo).toNat, List.mem_range.mpr (by omega), by omega⟩
theorem rng_length (lo hi : Int) : (rng lo hi).length = (hi - lo).toNat := by unfold rng; simp
theorem rng_get {lo hi : Int} {i : Nat} (h : i < (hi - lo).toNat) : (rng lo hi)[i]? = some (lo + i) := by
  unfold rng
  rw [List.getElem?_map, List.getElem?_range h]
  rfl
/-! isinstance of built-in types -/
theorem kit_int_NoneType : kitB "NoneType" "int" = some false := by decide +kernel
@[simp] theorem isi_int_NoneType : isiD "int" .non = some (.bl false) := by show Option.map D.bl (kitB "NoneType" "int") = _; rw [kit_int_NoneType]; rfl
theorem kit_int_bool : kitB "bool" "int" = some true := by decide +kernel
@[simp] theorem isi_int_bool (x : Bool) : isiD "int" (.bl x) = some (.bl true) := by show Option.map D.bl (kitB "bool" "int") = _; rw [kit_int_bool]; rfl
theorem kit_int_int : kitB "int" "int" = some true := by decide +kernel
@[simp] theorem isi_int_int (x : Int) : isiD "int" (.int x) = some (.bl true) := by show Option.map D.bl (kitB "int" "int") = _; rw [kit_int_int]; rfl
theorem kit_int_str : kitB "str" "int" = some false := by decide +kernel
@[simp] theorem isi_int_str (x : Str) : isiD "int" (.str x) = some (.bl false) := by show Option.map D.bl (kitB "str" "int") = _; rw [kit_int_str]; rfl
theorem kit_int_tuple : kitB "tuple" "int" = some false := by decide +kernel
@[simp] theorem isi_int_tuple (x : List D) : isiD "int" (.tup x) = some (.bl false) := by show Option.map D.bl (kitB "tuple" "int") = _; rw [kit_int_tuple]; rfl
theorem kit_int_list : kitB "list" "int" = some false := by decide +kernel
@[simp] theorem isi_int_list (x : List D) : isiD "int" (.lst x) = some (.bl false) := by show Option.map D.bl (kitB "list" "int") = _; rw [kit_int_list]; rfl
theorem kit_bool_NoneType : kitB "NoneType" "bool" = some false := by decide +kernel
@[simp] theorem isi_bool_NoneType : isiD "bool" .non = some (.bl false) := by show Option.map D.bl (kitB "NoneType" "bool") = _; rw [kit_bool_NoneType]; rfl
theorem kit_bool_bool : kitB "bool" "bool" = some true := by decide +kernel
@[simp] theorem isi_bool_bool (x : Bool) : isiD "bool" (.bl x) = some (.bl true) := by show Option.map D.bl (kitB "bool" "bool") = _; rw [kit_bool_bool]; rfl
theorem kit_bool_int : kitB "int" "bool" = some false := by decide +kernel
@[simp] theorem isi_bool_int (x : Int) : isiD "bool" (.int x) = some (.bl false) := by show Option.map D.bl (kitB "int" "bool") = _; rw [kit_bool_int]; rfl
theorem kit_bool_str : kitB "str" "bool" = some false := by decide +kernel
@[simp] theorem isi_bool_str (x : Str) : isiD "bool" (.str x) = some (.bl false) := by show Option.map D.bl (kitB "str" "bool") = _; rw [kit_bool_str]; rfl
theorem kit_bool_tuple : kitB "tuple" "bool" = some false := by decide +kernel
@[simp] theorem isi_bool_tuple (x : List D) : isiD "bool" (.tup x) = some (.bl false) := by show Option.map D.bl (kitB "tuple" "bool") = _; rw [kit_bool_tuple]; rfl
theorem kit_bool_list : kitB "list" "bool" = some false := by decide +kernel
@[simp] theorem isi_bool_list (x : List D) : isiD "bool" (.lst x) = some (.bl false) := by show Option.map D.bl (kitB "list" "bool") = _; rw [kit_bool_list]; rfl
theorem kit_str_NoneType : kitB "NoneType" "str" = some false := by decide +kernel
@[simp] theorem isi_str_NoneType : isiD "str" .non = some (.bl false) := by show Option.map D.bl (kitB "NoneType" "str") = _; rw [kit_str_NoneType]; rfl
theorem kit_str_bool : kitB "bool" "str" = some false := by decide +kernel
@[simp] theorem isi_str_bool (x : Bool) : isiD "str" (.bl x) = some (.bl false) := by show Option.map D.bl (kitB "bool" "str") = _; rw [kit_str_bool]; rfl
theorem kit_str_int : kitB "int" "str" = some false := by decide +kernel
@[simp] theorem isi_str_int (x : Int) : isiD "str" (.int x) = some (.bl false) := by show Option.map D.bl (kitB "int" "str") = _; rw [kit_str_int]; rfl
theorem kit_str_str : kitB "str" "str" = some true := by decide +kernel
@[simp] theorem isi_str_str (x : Str) : isiD "str" (.str x) = some (.bl true) := by show Option.map D.bl (kitB "str" "str") = _; rw [kit_str_str]; rfl
theorem kit_str_tuple : kitB "tuple" "str" = some false := by decide +kernel
@[simp] theorem isi_str_tuple (x : List D) : isiD "str" (.tup x) = some (.bl false) := by show Option.map D.bl (kitB "tuple" "str") = _; rw [kit_str_tuple]; rfl
theorem kit_str_list : kitB "list" "str" = some false := by decide +kernel
@[simp] theorem isi_str_list (x : List D) : isiD "str" (.lst x) = some (.bl false) := by show Option.map D.bl (kitB "list" "str") = _; rw [kit_str_list]; rfl
theorem kit_tuple_NoneType : kitB "NoneType" "tuple" = some false := by decide +kernel
@[simp] theorem isi_tuple_NoneType : isiD "tuple" .non = some (.bl false) := by show Option.map D.bl (kitB "NoneType" "tuple") = _; rw [kit_tuple_NoneType]; rfl
theorem kit_tuple_bool : kitB "bool" "tuple" = some false := by decide +kernel
@[simp] theorem isi_tuple_bool (x : Bool) : isiD "tuple" (.bl x) = some (.bl false) := by show Option.map D.bl (kitB "bool" "tuple") = _; rw [kit_tuple_bool]; rfl
theorem kit_tuple_int : kitB "int" "tuple" = some false := by decide +kernel
@[simp] theorem isi_tuple_int (x : Int) : isiD "tuple" (.int x) = some (.bl false) := by show Option.map D.bl (kitB "int" "tuple") = _; rw [kit_tuple_int]; rfl
theorem kit_tuple_str : kitB "str" "tuple" = some false := by decide +kernel
@[simp] theorem isi_tuple_str (x : Str) : isiD "tuple" (.str x) = some (.bl false) := by show Option.map D.bl (kitB "str" "tuple") = _; rw [kit_tuple_str]; rfl
theorem kit_tuple_tuple : kitB "tuple" "tuple" = some true := by decide +kernel
@[simp] theorem isi_tuple_tuple (x : List D) : isiD "tuple" (.tup x) = some (.bl true) := by show Option.map D.bl (kitB "tuple" "tuple") = _; rw [kit_tuple_tuple]; rfl
theorem kit_tuple_list : kitB "list" "tuple" = some false := by decide +kernel
@[simp] theorem isi_tuple_list (x : List D) : isiD "tuple" (.lst x) = some (.bl false) := by show Option.map D.bl (kitB "list" "tuple") = _; rw [kit_tuple_list]; rfl
theorem kit_list_NoneType : kitB "NoneType" "list" = some false := by decide +kernel
@[simp] theorem isi_list_NoneType : isiD "list" .non = some (.bl false) := by show Option.map D.bl (kitB "NoneType" "list") = _; rw [kit_list_NoneType]; rfl
theorem kit_list_bool : kitB "bool" "list" = some false := by decide +kernel
@[simp] theorem isi_list_bool (x : Bool) : isiD "list" (.bl x) = some (.bl false) := by show Option.map D.bl (kitB "bool" "list") = _; rw [kit_list_bool]; rfl
theorem kit_list_int : kitB "int" "list" = some false := by decide +kernel
@[simp] theorem isi_list_int (x : Int) : isiD "list" (.int x) = some (.bl false) := by show Option.map D.bl (kitB "int" "list") = _; rw [kit_list_int]; rfl
theorem kit_list_str : kitB "str" "list" = some false := by decide +kernel
@[simp] theorem isi_list_str (x : Str) : isiD "list" (.str x) = some (.bl false) := by show Option.map D.bl (kitB "str" "list") = _; rw [kit_list_str]; rfl
theorem kit_list_tuple : kitB "tuple" "list" = some false := by decide +kernel
@[simp] theorem isi_list_tuple (x : List D) : isiD "list" (.tup x) = some (.bl false) := by show Option.map D.bl (kitB "tuple" "list") = _; rw [kit_list_tuple]; rfl
theorem kit_list_list : kitB "list" "list" = some true := by decide +kernel
@[simp] theorem isi_list_list (x : List D) : isiD "list" (.lst x) = some (.bl true) := by show Option.map D.bl (kitB "list" "list") = _; rw [kit_list_list]; rfl
theorem kit_int_dict : kitB "dict" "int" = some false := by decide +kernel
@[simp] theorem isi_int_dict : isiD "int" .emp = some (.bl false) := by show Option.map D.bl (kitB "dict" "int") = _; rw [kit_int_dict]; rfl
theorem kit_bool_dict : kitB "dict" "bool" = some false := by decide +kernel
@[simp] theorem isi_bool_dict : isiD "bool" .emp = some (.bl false) := by show Option.map D.bl (kitB "dict" "bool") = _; rw [kit_bool_dict]; rfl
theorem kit_str_dict : kitB "dict" "str" = some false := by decide +kernel
@[simp] theorem isi_str_dict : isiD "str" .emp = some (.bl false) := by show Option.map D.bl (kitB "dict" "str") = _; rw [kit_str_dict]; rfl
theorem kit_tuple_dict : kitB "dict" "tuple" = some false := by decide +kernel
@[simp] theorem isi_tuple_dict : isiD "tuple" .emp = some (.bl false) := by show Option.map D.bl (kitB "dict" "tuple") = _; rw [kit_tuple_dict]; rfl
theorem kit_list_dict : kitB "dict" "list" = some false := by decide +kernel
@[simp] theorem isi_list_dict : isiD "list" .emp = some (.bl false) := by show Option.map D.bl (kitB "dict" "list") = _; rw [kit_list_dict]; rfl
theorem P1.all {g : D → ResP} {F : List D → ResP} (h : ∀ a, g a ≠ .stuck → F [a] = g a) : ∀ ds, P1 g ds ≠ .stuck → F ds = P1 g ds := fun ds q => by
  have hl := P1.len ds q
  match ds, hl, q with
  | [a], _, q => exact h a q
theorem P2.all {g : D → D → ResP} {F : List D → ResP} (h : ∀ a b, g a b ≠ .stuck → F [a, b] = g a b) : ∀ ds, P2 g ds ≠ .stuck → F ds = P2 g ds := fun ds q => by
  have hl := P2.len ds q
  match ds, hl, q with
  | [a, b], _, q => exact h a b q
theorem P3.all {g : D → D → D → ResP} {F : List D → ResP} (h : ∀ a b c, g a b c ≠ .stuck → F [a, b, c] = g a b c) : ∀ ds, P3 g ds ≠ .stuck → F ds = P3 g ds := fun ds q => by
  have hl := P3.len ds q
  match ds, hl, q with
  | [a, b, c], _, q => exact h a b c q
theorem P4.all {g : D → D → D → D → ResP} {F : List D → ResP} (h : ∀ a b c d, g a b c d ≠ .stuck → F [a, b, c, d] = g a b c d) : ∀ ds, P4 g ds ≠ .stuck → F ds = P4 g ds := fun ds q => by
  have hl := P4.len ds q
  match ds, hl, q with
  | [a, b, c, d], _, q => exact h a b c d q
theorem P5.all {g : D → D → D → D → D → ResP} {F : List D → ResP} (h : ∀ a b c d e, g a b c d e ≠ .stuck → F [a, b, c, d, e] = g a b c d e) : ∀ ds, P5 g ds ≠ .stuck → F ds = P5 g ds := fun ds q => by
  have hl := P5.len ds q
  match ds, hl, q with
  | [a, b, c, d, e], _, q => exact h a b c d e q
end Lt

/-! # Reading terms of own objects -/
namespace Lt
open PySem PySem.Spec L2
section
variable {ρ : Rho} {i j : Nat} {d : D} {o : O} {b : Option Nat} {ga gb gc : Rho → Out D} {gs : Rho → Out (List D)} {go : Rho → Out O} {gr : Rho → Out (List Ar)} {fs : Fs} {s : Rho → Fl}
def lstS : Option S → Option (List D)
  | some (.own _ (.lst ds)) => some ds
  | _ => none
def dkS : Option S → Option (List (Key × D))
  | some (.own _ (.dk ds)) => some ds
  | _ => none
@[simp] theorem rd_lstS (ds : List D) : lstS (some (.own b (.lst ds))) = some ds := (rfl)
@[simp] theorem rd_dkS (ds : List (Key × D)) : dkS (some (.own b (.dk ds))) = some ds := (rfl)
@[simp] theorem rd_lstAt : lstAt i ρ = lstS (ρ[i]?) := (rfl)
@[simp] theorem rd_dkAt : dkAt i ρ = dkS (ρ[i]?) := (rfl)
def setS (i : Nat) (o : O) (ρ : Rho) : Option S → Rho
  | some (.own b _) => ρ.set i (.own b o)
  | _ => ρ
@[simp] theorem rd_setS {o' : O} : setS i o ρ (some (.own b o')) = ρ.set i (.own b o) := (rfl)
@[simp] theorem rd_setO : setO i o ρ = setS i o ρ (ρ[i]?) := (rfl)
@[simp] theorem rd_ixO : eIxO i ga ρ = match lstAt i ρ with
  | none => .stuck
  | some _ => (ga ρ).bind fun k ρ1 => match lstAt i ρ1 with
    | some ds => lift (ixD (.lst ds) k) ρ1
    | none => .stuck := rfl
@[simp] theorem rd_lenO : eLenO i ρ = match lstAt i ρ with
  | some ds => .ok (.int ds.length) ρ
  | none => .stuck := (rfl)
@[simp] theorem rd_append : sAppend i ga ρ = match lstAt i ρ with
  | none => .stuck
  | some _ => (ga ρ).fl fun d ρ1 => match lstAt i ρ1 with
    | some ds => if ds.length < sizeLine then .nx (setO i (.lst (ds ++ [d])) ρ1) else .stuck
    | none => .stuck := rfl
@[simp] theorem rd_putL : sPutL i ga gb ρ = (ga ρ).fl fun d ρ1 => match lstAt i ρ1 with
  | none => .stuck
  | some _ => (gb ρ1).fl fun k ρ2 => match k, lstAt i ρ2 with
    | .int z, some ds => match ixN ds.length z with
      | some j => .nx (setO i (.lst (ds.set j d)) ρ2)
      | none => .stuck
    | _, _ => .stuck := rfl
theorem ixN_nat {n : Nat} {z : Int} (h : 0 ≤ z) (h2 : z < n) : ixN n z = some z.toNat := by unfold ixN; rw [if_pos h, if_pos h2]
@[simp] theorem rd_setO' : sSetO i go ρ = (go ρ).fl fun o ρ1 => .nx (ρ1.set i (.own none o)) := (rfl)
def retS (ρ : Rho) : Option S → Fl
  | some (.own none o) => .rt (.own o) ρ
  | _ => .stuck
@[simp] theorem rd_retS : retS ρ (some (.own none o)) = .rt (.own o) ρ := (rfl)
@[simp] theorem rd_retO : sRetO i ρ = retS ρ (ρ[i]?) := (rfl)
@[simp] theorem rd_oLst : oLst gs ρ = (gs ρ).bind fun ds ρ1 => lift (if ds.length ≤ sizeLine then some (O.lst ds) else none) ρ1 := (rfl)
@[simp] theorem rd_dget : eDget i ga ρ = match dkAt i ρ with
  | none => .stuck
  | some _ => (ga ρ).bind fun k ρ1 => match dkAt i ρ1, toKey k with
    | some kvs, some key => lift (valD kvs key) ρ1
    | _, _ => .stuck := rfl
@[simp] theorem rd_dput : sDput i ga gb ρ = (ga ρ).fl fun d ρ1 => match dkAt i ρ1 with
  | none => .stuck
  | some _ => (gb ρ1).fl fun k ρ2 => match dkAt i ρ2, toKey k with
    | some kvs, some key => if kvs.length < 1000 then .nx (setO i (.dk (putD kvs key d)) ρ2) else .stuck
    | _, _ => .stuck := rfl
@[simp] theorem rd_key (x : Str) : toKey (.str x) = some (.inr x) := (rfl)
@[simp] theorem rd_keyI (x : Int) : toKey (.int x) = some (.inl x) := (rfl)
@[simp] theorem rd_pNil : pNil ρ = .ok [] ρ := (rfl)
@[simp] theorem rd_pCons {gp : Rho → Out (List (Key × D))} : pCons ga gb gp ρ = (ga ρ).bind fun k ρ1 => (gb ρ1).bind fun v ρ2 => (gp ρ2).bind fun r ρ3 => match toKey k with
  | some key => .ok ((key, v) :: r) ρ3
  | none => .stuck := (rfl)
@[simp] theorem rd_oDict {gp : Rho → Out (List (Key × D))} : oDict gp ρ = (gp ρ).bind fun kvs ρ1 => if kvs.length ≤ 15 then .ok (.dk (mergeD [] kvs)) ρ1 else .stuck := (rfl)
@[simp] theorem rd_arNil : arNil ρ = .ok [] ρ := (rfl)
@[simp] theorem rd_arVal : arVal ga gr ρ = (ga ρ).bind fun d ρ1 => (gr ρ1).bind fun ds ρ2 => .ok (.val d :: ds) ρ2 := (rfl)
def slS (i : Nat) (gs : Rho → Out (List Ar)) (ρ : Rho) : Option S → Out (List Ar)
  | some (.own _ _) => (gs ρ).bind fun ds ρ2 => .ok (.slot i :: ds) ρ2
  | _ => .stuck
@[simp] theorem rd_slS : slS i gr ρ (some (.own b o)) = (gr ρ).bind fun ds ρ2 => .ok (.slot i :: ds) ρ2 := (rfl)
@[simp] theorem rd_arSlot : arSlot i gr ρ = slS i gr ρ (ρ[i]?) := (rfl)
def mkS : Option S → Option O
  | some (.own _ o) => some o
  | _ => none
@[simp] theorem rd_mkS : mkS (some (.own b o)) = some o := (rfl)
@[simp] theorem rd_mk0 : mkArgs [] ρ = some [] := (rfl)
@[simp] theorem rd_mkV {r : List Ar} : mkArgs (.val d :: r) ρ = (mkArgs r ρ).map (.val d :: ·) := (rfl)
@[simp] theorem rd_mkO {r : List Ar} : mkArgs (.slot i :: r) ρ = (mkS (ρ[i]?)).bind fun o => (mkArgs r ρ).map (.own o :: ·) := by
  show (match ρ[i]? with | some (.own _ o) => _ | _ => _) = _
  cases h : ρ[i]? with
  | none => rfl
  | some s => cases s <;> rfl
@[simp] theorem rd_callR : callR fs gr ρ = (gr ρ).bind fun as ρ1 => match mkArgs as ρ1 with
  | none => .stuck
  | some rs => if (slotsOf as).Nodup then match fs rs with
      | .ok r bs => .ok r (putBack as bs ρ1)
      | .exc C ns xs bs => .exc C ns xs (putBack as bs ρ1)
      | .stuck => .stuck
    else .stuck := rfl
@[simp] theorem rd_fnO : eFnO fs gr ρ = (callR fs gr ρ).bind fun r ρ1 => match r with
  | .val d => .ok d ρ1
  | _ => .stuck := (rfl)
@[simp] theorem rd_ofnO : oFnO fs gr ρ = (callR fs gr ρ).bind fun r ρ1 => match r with
  | .own o => .ok o ρ1
  | _ => .stuck := (rfl)
@[simp] theorem rd_sl0 : slotsOf [] = [] := (rfl)
@[simp] theorem rd_slV {r : List Ar} : slotsOf (.val d :: r) = slotsOf r := (rfl)
@[simp] theorem rd_slO {r : List Ar} : slotsOf (.slot i :: r) = i :: slotsOf r := (rfl)
@[simp] theorem rd_pb0 : putBack [] [] ρ = ρ := (rfl)
@[simp] theorem rd_pbV {r : List Ar} {x : R} {bs : List R} : putBack (.val d :: r) (x :: bs) ρ = putBack r bs ρ := by cases x <;> rfl
@[simp] theorem rd_pbO {r : List Ar} {bs : List R} : putBack (.slot i :: r) (.own o :: bs) ρ = putBack r bs (setO i o ρ) := (rfl)
@[simp] theorem rd_frz {gg : Rho → Out O} : eFrz gg ρ = (gg ρ).bind fun o ρ1 => lift (frz o) ρ1 := (rfl)
def frS (i : Nat) (ρ : Rho) : Option S → Rho
  | some (.own none o) => match frz o with
    | some d => ρ.set i (.val d)
    | none => ρ
  | _ => ρ
@[simp] theorem rd_frS : frS i ρ (some (.own none o)) = match frz o with
    | some d => ρ.set i (.val d)
    | none => ρ := rfl
@[simp] theorem rd_frzS : frzS i ρ = frS i ρ (ρ[i]?) := (rfl)
@[simp] theorem rd_frzL (ds : List D) : frz (.lst ds) = some (.lst ds) := (rfl)
@[simp] theorem rd_make {C : Addr} : oMake fs C gs ρ = (gs ρ).bind fun ds ρ1 => match fs (.own (.ins C []) :: ds.map R.val) with
  | .ok (.val .non) (.own o :: _) => .ok o ρ1
  | .exc C' ns xs _ => .exc C' ns xs ρ1
  | _ => .stuck := (rfl)
@[simp] theorem rd_nNil : nNil ρ = .ok [] ρ := (rfl)
@[simp] theorem rd_nVal {gn : Rho → Out (List R)} : nVal ga gn ρ = (ga ρ).bind fun d ρ1 => (gn ρ1).bind fun rs ρ2 => .ok (.val d :: rs) ρ2 := (rfl)
@[simp] theorem rd_nOwn {gn : Rho → Out (List R)} : nOwn go gn ρ = (go ρ).bind fun o ρ1 => (gn ρ1).bind fun rs ρ2 => .ok (.own o :: rs) ρ2 := (rfl)
@[simp] theorem rd_parN {is : List Nat} {gn : Rho → Out (List R)} : sParN is gn ρ = (gn ρ).fl fun rs ρ1 => if rs.length = is.length then .nx (setRs is rs ρ1) else .stuck := (rfl)
@[simp] theorem rd_setRs0 : setRs [] [] ρ = ρ := (rfl)
@[simp] theorem rd_setRs {is : List Nat} {r : R} {rs : List R} : setRs (i :: is) (r :: rs) ρ = setRs is rs (setR i r ρ) := (rfl)
@[simp] theorem rd_setRv : setR i (.val d) ρ = ρ.set i (.val d) := (rfl)
@[simp] theorem rd_setRo : setR i (.own o) ρ = ρ.set i (.own none o) := (rfl)
@[simp] theorem rd_rep : oRep ga gb ρ = (ga ρ).bind fun a ρ1 => (gb ρ1).bind fun b ρ2 => match a, b with
  | .lst xs, .int k => if -(2 ^ 62) ≤ k ∧ k < 2 ^ 62 ∧ xs.length * k.toNat ≤ sizeLine then .ok (.lst (List.replicate k.toNat xs).flatten) ρ2 else .stuck
  | _, _ => .stuck := by first | rfl | (unfold oRep; rfl)
@[simp] theorem rd_pow (i j : Int) : powD (.int i) (.int j) = if 0 ≤ j ∧ j ≤ 1000000 ∧ i.natAbs < 2 ^ 64 then some (.int (i ^ j.toNat)) else none := (rfl)
end
/-! steps, one after the other (no match is left to the kernel) -/
theorem seq_nx {s s' : Rho → Fl} {ρ ρ' : Rho} (h : s ρ = .nx ρ') : sSeq s s' ρ = s' ρ' := by rw [rd_seq, h, seqK_nx]
theorem seq_rt {s s' : Rho → Fl} {ρ ρ' : Rho} {r : R} (h : s ρ = .rt r ρ') : sSeq s s' ρ = .rt r ρ' := by rw [rd_seq, h, seqK_rt]
/-- within a range's bounds -/
def b62 (i : Int) : Prop := -(2 ^ 62) ≤ i ∧ i < 2 ^ 62
noncomputable instance (i : Int) : Decidable (b62 i) := Classical.propDecidable _
theorem b62_lit : ((100001 : Int)) < 2 ^ 62 := by decide
theorem b62_of {i : Int} (h : -100000 ≤ i) (h2 : i ≤ 100001) : b62 i := by
  have := b62_lit
  unfold b62
  generalize (2 : Int) ^ 62 = z at *
  omega
@[simp] theorem b62_0 : b62 0 := b62_of (by decide) (by decide)
@[simp] theorem b62_1 : b62 1 := b62_of (by decide) (by decide)
theorem rd_rng1b {gs : Rho → Out (List D)} {ρ : Rho} : iRng1D gs ρ = (gs ρ).bind fun ds ρ1 => match ds with
  | [.int j] => if b62 j then .ok (iRange 0 j) ρ1 else .stuck
  | _ => .stuck := by
  have key : ∀ (j : Int) (ρ1 : Rho), (if -(2 ^ 62) ≤ j ∧ j < 2 ^ 62 then (Out.ok (iRange 0 j) ρ1) else .stuck) = (if b62 j then .ok (iRange 0 j) ρ1 else .stuck) := fun j ρ1 => by
    by_cases h : b62 j
    · rw [if_pos h, if_pos (show -(2 ^ 62) ≤ j ∧ j < 2 ^ 62 from h)]
    · rw [if_neg h, if_neg (show ¬ (-(2 ^ 62) ≤ j ∧ j < 2 ^ 62) from h)]
  unfold iRng1D
  congr 1
  funext ds ρ1
  split
  · exact key _ _
  · rename_i q
    first
      | rfl
      | (split
         · exact (q _ rfl).elim
         · rfl)
theorem rd_rng2b {gs : Rho → Out (List D)} {ρ : Rho} : iRng2D gs ρ = (gs ρ).bind fun ds ρ1 => match ds with
  | [.int i, .int j] => if b62 i ∧ b62 j then .ok (iRange i j) ρ1 else .stuck
  | _ => .stuck := by
  have key : ∀ (i j : Int) (ρ1 : Rho), (if (-(2 ^ 62) ≤ i ∧ i < 2 ^ 62) ∧ -(2 ^ 62) ≤ j ∧ j < 2 ^ 62 then (Out.ok (iRange i j) ρ1) else .stuck) = (if b62 i ∧ b62 j then .ok (iRange i j) ρ1 else .stuck) := fun i j ρ1 => by
    by_cases h : b62 i ∧ b62 j
    · rw [if_pos h, if_pos (show (-(2 ^ 62) ≤ i ∧ i < 2 ^ 62) ∧ -(2 ^ 62) ≤ j ∧ j < 2 ^ 62 from h)]
    · rw [if_neg h, if_neg (show ¬ ((-(2 ^ 62) ≤ i ∧ i < 2 ^ 62) ∧ -(2 ^ 62) ≤ j ∧ j < 2 ^ 62) from h)]
  unfold iRng2D
  congr 1
  funext ds ρ1
  split
  · exact key _ _ _
  · rename_i q
    first
      | rfl
      | (split
         · exact (q _ _ rfl).elim
         · rfl)
end Lt

/-! # The end: the law's promise, constants of the module -/
namespace Lt
open PySem PySem.Spec L2
def spLw (K : PySem.W.Frag) : Sp := fun vs H Q _ => ∃ (a : Addr) (ns : List Int), vs = [.ref a] ∧ SqL K H a (ns.map V.int) ∧ ns.length ≤ 63 ∧ ∀ H', Q (.bl true) H'
def f_law : PFs := P1 fun d => match d with
  | .scr ns => if ns.length ≤ 63 then .ok (.val (.bl true)) else .stuck
  | _ => .stuck
section
variable {P : Program} {w : World} {K : PySem.W.Frag} {mg : Str → Option Value} {base : Heap} {CX : CXT}
theorem fn_law {k : Nat} {f : Addr} {fd : FuncData} {x : Str} (h : FnOk P w K mg base CX k f fd [x] (spF K (pureF f_law))) : FnOk P w K mg base CX k f fd [x] (spLw K) := h.imp fun vs H Q E q => by
  obtain ⟨a, ns, rfl, h1, h2, h3⟩ := q
  refine ⟨H, [.val (.scr ns)], Same.refl _, ⟨.ref a, [], rfl, ⟨a, rfl, h1⟩, rfl⟩, by simp [ownA], ?_⟩
  have e : pureF f_law [.val (.scr ns)] = .ok (.val (.bl true)) [.val (.scr ns)] := by
    unfold pureF f_law P1
    simp [vals, h2]
  rw [e]
  intro F' H' v _ rv
  cases (show v = .bl true from rv)
  exact h3 H'
theorem gc_int {x : Str} {i : Int} {t : Tok} (h : mg x = some (.int i t)) : Gc mg K x (.int i) := ⟨.int i, .int i t, h, ⟨t, rfl⟩, fun _ => rfl⟩
theorem gc_tup2i {x : Str} {a : Addr} {od : Option Addr} {i j : Int} {t u : Tok} {n : Nat} {sl : Array (Option Value)} (h : mg x = some (.ref a)) (l : K.lookup a = some ⟨.type "tuple", od, .seq #[.int i t, .int j u] n, sl⟩) : Gc mg K x (.tup [.int i, .int j]) :=
  ⟨.ref a, .ref a, h, rfl, fun F => ⟨a, [.int i, .int j], rfl, .inr ⟨_, _, n, l, rfl, rfl, by show 2 ≤ sizeLine; rw [sizeLine_eq]; decide, .cons ⟨t, rfl⟩ (.cons ⟨u, rfl⟩ .nil)⟩, .int i, _, rfl, rfl, .int j, _, rfl, rfl, rfl⟩⟩
theorem gc_tup3s {x : Str} {a : Addr} {od : Option Addr} {i j k : Str} {t u v : Tok} {n : Nat} {sl : Array (Option Value)} (h : mg x = some (.ref a)) (l : K.lookup a = some ⟨.type "tuple", od, .seq #[.str i t, .str j u, .str k v] n, sl⟩) : Gc mg K x (.tup [.str i, .str j, .str k]) :=
  ⟨.ref a, .ref a, h, rfl, fun F => ⟨a, [.str i, .str j, .str k], rfl, .inr ⟨_, _, n, l, rfl, rfl, by show 3 ≤ sizeLine; rw [sizeLine_eq]; decide, .cons ⟨t, rfl⟩ (.cons ⟨u, rfl⟩ (.cons ⟨v, rfl⟩ .nil))⟩, .str i, _, rfl, rfl, .str j, _, rfl, rfl, .str k, _, rfl, rfl, rfl⟩⟩
end
end Lt

/-! # Own errors raised -/
namespace Lt
open PySem PySem.Spec L2
open PyProof.Rows (AllBare)

/-! ### an error that is made and has no dict -/
theorem bare_end {X : Cx} {pins : List (Addr × Obj)} {σ : St} {H1 H2 : Hp} {Q : XK} {hp hp2 h2 : Heap} {g1 g2 : Array GenState} {d1 d2 : Drawn} {t1 t2 : Nat} {os1 os2 : OsState} {a C : Addr} (T : Raises X (.ref C)) (I1 : Inv X pins σ H1 ⟨hp, g1, d1, t1, os1⟩)
    (ha : hp.objs.size ≤ a) (k : ∀ b o, hp.get? b = some o → hp2.get? b = some o) (un : Un (frs X.stack) [] (upd H1 a (exo a C none)) H2 hp2 h2) (hok : HOk X.prog X.w H2 h2) (ho : os2 = os1) (hb : AllBare g2)
    (e2 : H2 = upd H1 a (exo a C none)) (q : Q (.ref C) none H1) : MkP X pins σ Q (.ref a) ⟨h2, g2, d2, t2, os2⟩ := by
  subst e2
  obtain ⟨t0, hoe⟩ := exo_at hok upd_same
  have na : H1 a = none := I1.hok.fresh ha
  obtain ⟨G, gyes, gno⟩ := restrict h2 fun b => decide (b ≠ a)
  have gk : ∀ b, b ≠ a → G.get? b = h2.get? b := fun b n => gyes b (decide_eq_true n)
  have ga : G.get? a = none := gno a (by simp)
  have old : ∀ {b : Addr} {o : Obj}, hp.get? b = some o → b ≠ a := fun {b o} z => Nat.ne_of_lt (Nat.lt_of_lt_of_le (Heap.lt_size z) ha)
  have at_ : ∀ {b : Addr}, b ≠ a → upd H1 a (exo a C none) b = H1 b := fun {b} n => upd_ne n
  have U : Un (frs X.stack) [] H1 H1 hp G := {
    keep := fun b o z n f x => (gk b (old z)).trans (un.keep b o (k b o z) ((at_ (old z)).trans n) f x)
    slot := fun b o z n f x => by
      obtain ⟨sl, y⟩ := un.slot b o (k b o z) ((at_ (old z)).trans n) f x
      exact ⟨sl, (gk b (old z)).trans y⟩
    free := fun b o z n _ => n
    there := fun b o z x => by
      obtain ⟨o', y⟩ := un.there b o (k b o z) x
      exact ⟨o', (gk b (old z)).trans y⟩
    tups := fun _ _ z => z
    frzs := fun _ _ _ z => z
    tbls := fun _ _ z => ⟨#[], by rw [z]; simp⟩ }
  have hok1 : HOk X.prog X.w H1 G := fun b o z => by
    have nb : b ≠ a := ne_of_none z na
    have z2 : upd H1 a (exo a C none) b = some o := (at_ nb).trans z
    refine (hok b o z2).stay (fun c v hc y => ?_) (fun c hc => ?_) fun c xs hc => ?_
    · have nc : c ≠ a := by
        rcases hc with hc | hc
        · rw [hc]; exact nb
        · exact at_ne upd_same hc exo_own
      exact (gk c nc).trans y
    · have nc : c ≠ a := at_ne upd_same hc exo_own
      rw [at_ nc] at hc
      exact hc
    · have nc : c ≠ a := at_ne upd_same hc exo_tup
      rw [at_ nc] at hc
      exact hc
  have J : Inv X pins σ H1 ⟨G, g2, d2, t2, os2⟩ := I1.call' (ch := []) ho U hok1 hb (fun b z => absurd z (by simp))
  refine ⟨a, _, _, ⟨G, g2, d2, t2, os2⟩, H1, .ref C, none, rfl, J, fun b o z => ?_, ga, hoe, ⟨rfl, rfl⟩, rfl, rfl, na, rfl, hb, T, q⟩
  by_cases c : b = a
  · rw [c, ga] at z
    cases z
  · exact (gk b c).symm.trans z
/-- what the call of such a class asks of its __init__ -/
def MkQ (C a : Addr) (H1 : Hp) (Q : XK) : VK := fun v H2 => v = .non ∧ ((H2 = upd H1 a (exo a C none) ∧ Q (.ref C) none H1) ∨
  ∃ (d : Addr) (fs : List (Str × V)), H2 a = some (exo a C (some d)) ∧ H2 d = some (exd d fs) ∧ H1 d = none ∧ Q (.ref C) (some d) (upd (del H2 a) d (.xd fs)))
/-- an error class of one's own: its own __init__ at fI -/
structure ErrC (K : PySem.W.Frag) (C fI : Addr) : Prop where
  ox : OexC K C
  iC : PySem.W.findIn K (.ref C) "__init__" = some (some (.ref fI))
  tI : PySem.W.typeIn K (.ref fI) = some (.type "function")
section
variable {X : Cx} {C fI : Addr} {k : Nat} {fd : FuncData} {ps : List Str} {sp : Sp}
theorem run_exc {pins : List (Addr × Obj)} {σ : St} {H1 : Hp} {Q : XK} {s : Shared} {vs : List V} {us : List Value} (T : ErrC X.K C fI) (F1 : FnOk X.prog X.w X.K X.mg X.base (L2.CX X.prog X.w) k fI fd ps sp) (hr : Room (k + 1) X.A) (hb : Binds X.K fd ps [])
    (I1 : Inv X pins σ H1 s) (r1 : Vals vs us) (hz : vs.length ≤ 1000) (hq : ∀ a, H1 a = none → sp (.ref a :: vs) (upd H1 a (exo a C none)) (MkQ C a H1 Q) (fun _ _ _ => False)) : wpAny (model X.prog X.w) X.A (call (.ref C) us) (MkP X pins σ Q) X.xe s := by
  obtain ⟨nm, q, N, bs, bm, sn, sub, ab, col, dd, k0, k1, k2, k3, k5, hC, hbm⟩ := T.ox.cls
  have hbm' := fun Y => PySem.HandSPX.refsVE_contains Y bm hbm
  obtain ⟨hp, g, dr, tk, os⟩ := s
  have big : hp.objs.size ≤ hp.objs.size + 1 := Nat.le_succ _
  have q1 := hq (hp.objs.size + 1) (I1.hok.fresh big)
  have kk : ∀ b o, hp.get? b = some o → ((hp.push (PySem.W.kdv_tup us)).push (PySem.HandSPX.excO C hp.objs.size)).get? b = some o := fun b o e => Heap.get?_push_of_some _ (Heap.get?_push_of_some _ e)
  have there : ((hp.push (PySem.W.kdv_tup us)).push (PySem.HandSPX.excO C hp.objs.size)).get? (hp.objs.size + 1) = some (PySem.HandSPX.excO C hp.objs.size) := by heap_get
  have I2 : Inv X pins σ (upd H1 (hp.objs.size + 1) (exo (hp.objs.size + 1) C none)) ⟨(hp.push (PySem.W.kdv_tup us)).push (PySem.HandSPX.excO C hp.objs.size), g, dr, tk, os⟩ :=
    I1.laid (t' := tk) (a := hp.objs.size + 1) (o := exo (hp.objs.size + 1) C none) (h' := (hp.push (PySem.W.kdv_tup us)).push (PySem.HandSPX.excO C hp.objs.size)) kk big (exo_ok there)
  have r2 : Vals (V.ref (hp.objs.size + 1) :: vs) (Value.ref (hp.objs.size + 1) :: us) := .cons rfl r1
  have hl : ((Value.ref (hp.objs.size + 1) :: us) ++ ([] : List Value)).length = ps.length := by
    have e := r2.length
    rw [F1.len _ _ _ _ q1] at e
    rw [List.append_nil]
    exact e.symm
  have us1 : us.length ≤ sizeLine := by
    rw [← Paired.length r1, sizeLine_eq]
    omega
  have bound := hb ⟨(hp.push (PySem.W.kdv_tup us)).push (PySem.HandSPX.excO C hp.objs.size), g, dr, tk, os⟩ (Value.ref (hp.objs.size + 1) :: us) I2.kIn hl
  rw [List.append_nil] at bound
  refine wpAny_call (PySem.HandSPX.call_own F.excBase_ValueError hbm' (I1.kIn _ _ hC) (PySem.W.looks_findIn I1.kIn T.iC) (fun self => PySem.W.bind_fn I1.kIn self T.tI) us1
    (codeAny_mono (F1.run _ X.stack _ _ ⟨Value.ref (hp.objs.size + 1) :: us, []⟩ (Value.ref (hp.objs.size + 1) :: us) _ _ (fun _ _ _ => False) (hr.make C us []) (I2.env0.make C us []) bound r2 q1) fun r s' hq' => ?_))
  cases r with
  | error er => exact (passL (X := X)) pins σ _ _ er s' I2 hq'
  | ok fl =>
    cases fl with
    | ret u =>
      obtain ⟨v, H2, os2, bare2, un2, hok2, rv, ev, alt⟩ := hq'
      subst ev
      obtain ⟨h2, g2, d2, t2, os'⟩ := s'
      refine ⟨rv, ?_⟩
      rcases alt with ⟨e2, q2⟩ | ⟨d, fs, ea, ed, hd1, q2⟩
      · exact bare_end (raises_own T.ox.exC T.ox.tyC) I1 big kk un2 hok2 os2 bare2 e2 q2
      · exact mk_end (raises_own T.ox.exC T.ox.tyC) I1 big kk un2 hok2 os2 bare2 ea ed hd1 q2
    | next => exact False.elim hq'
    | brk => exact False.elim hq'
    | cont => exact False.elim hq'
variable {x : Str} {p pos : Pos} {e : Expr} {es : List Expr} {ta : TA}
/-- C(..), an error -/
def tErr (C : Addr) (sp : Sp) (ta : TA) : St → Hp → XK → Prop := fun σ H Q => ta σ H fun vs H1 => vs.length ≤ 1000 ∧ ∀ a, H1 a = none → sp (.ref a :: vs) (upd H1 a (exo a C none)) (MkQ C a H1 Q) (fun _ _ _ => False)
theorem pmk_err0 (T : ErrC X.K C fI) (F1 : FnOk X.prog X.w X.K X.mg X.base (L2.CX X.prog X.w) k fI fd ps sp) (hr : Room (k + 1) X.A) (hb : Binds X.K fd ps []) (hg : Gl X x) (hm : X.mg x = some (.ref C)) (hdb : (x == ("__debug__" : Str)) = false := by decide) :
    PMk X (.Call (.Name x p) [] [] pos) (tErr C sp tNil) := fun pins s σ H Q I h =>
  wpAny_Call_Name_kw (ld_glob I hg hm (PySem.W.callWith_K0 I.kIn T.ox.kC (run_exc (us := []) T F1 hr hb I .nil h.1 h.2)) hdb)
theorem pmk_err (T : ErrC X.K C fI) (F1 : FnOk X.prog X.w X.K X.mg X.base (L2.CX X.prog X.w) k fI fd ps sp) (hr : Room (k + 1) X.A) (hb : Binds X.K fd ps []) (hg : Gl X x) (hm : X.mg x = some (.ref C)) (ha : PA X (e :: es) ta) (hdb : (x == ("__debug__" : Str)) = false := by decide)
    (he : starEach (e :: es) X.env = (false, eval e X.env) :: starEach es X.env := by rfl) (hpl : (backTo pos (starEach es X.env)).any (·.1) = false := by rfl) :
    PMk X (.Call (.Name x p) (e :: es) [] pos) (tErr C sp ta) := fun pins s σ H Q I h =>
  wpAny_Call_Name_kw (ld_glob I hg hm (PySem.W.callWith_K (h₀ := X.base) I.ok.mod.kin T.ox.kC (thn (ha.run pos pins s σ H _ I h) fun us s1 ⟨vs, H1, I1, r1, hz, q1⟩ => ⟨I1.kIn, run_exc T F1 hr hb I1 r1 hz q1⟩) he hpl) hdb)
end

/-! ### the base's __init__, by the base's name -/
/-- what the written part says of the base -/
structure BasC (K : PySem.W.Frag) (mg : Str → Option Value) (x : Str) (T : Addr) : Prop where
  mg : mg x = some (.ref T)
  rd : ClX.CRead K T (.type "type")
  ini : PySem.W.findCls K (.ref T) (.type "type") "__init__" = some (.val (.builtin "ValueError.__init__"))
section
variable {X : Cx} {x : Str} {T : Addr} {p1 p2 pos : Pos} {e : Expr} {es : List Expr} {ta : TA}
theorem pe_base {pl : Sem Bool} (B : BasC X.K X.mg x T) (ha : PA X (e :: es) ta) (hg : Gl X x := by rfl) (hdb : (x == ("__debug__" : Str)) = false := by decide)
    (hc : eval (.Call (.Attribute (.Name x p1) "__init__" p2) (e :: es) [] pos) X.env = (do
      let ov ← eval (.Name x p1) X.env
      standAt p2.atName
      let (f, first) ← holding [ov] (getMethod ov "__init__" pl)
      callWith pos f first (backTo pos (starEach (e :: es) X.env)) (backToKw pos (keywordEach [] X.env))) := by rfl)
    (he : starEach (e :: es) X.env = (false, eval e X.env) :: starEach es X.env := by rfl) (hpl : (backTo pos (starEach es X.env)).any (·.1) = false := by rfl) :
    PE X (.Call (.Attribute (.Name x p1) "__init__" p2) (e :: es) [] pos) (tVeI X.K ta) := by
  refine ⟨fun pins s σ H Q I h => ?_⟩
  refine PySem.W.methodCall_KW (ld_glob I hg B.mg ?_ hdb) hc
  refine PySem.W.method_cls I.kIn B.rd.ga (PySem.W.cls_value I.kIn B.rd.rd B.ini (by decide +kernel) ?_)
  show wpAny _ _ (callWith pos (Value.builtin "ValueError.__init__") [] (backTo pos (starEach (e :: es) X.env)) []) _ _ _
  refine PyProof.Rows.callWith_method1 (thn (ha.run pos pins _ σ H _ (I.tok _) h) fun us s1 ⟨vs, H1, I1, r1, a, C, ws, ev, hl, O, ea, q⟩ => ?_) he hpl
  subst ev
  cases r1 with
  | @cons _ u0 _ ur ra rw' =>
    obtain rfl : u0 = Value.ref a := ra
    have hlen : ur.length ≤ sizeLine := by
      rw [← Paired.length rw', sizeLine_eq]
      omega
    exact oinit_ok O I1 ea hlen fun s' J => ⟨.non, H1, J, rfl, q⟩
end

/-! ### the three kinds of __init__ -/
def spE0 (K : PySem.W.Frag) : Sp := fun vs H Q _ => ∃ a C : Addr, vs = [.ref a] ∧ OexC K C ∧ H a = some (exo a C none) ∧ Q .non H
def spE1 (K : PySem.W.Frag) (f : Str) : Sp := fun vs H Q _ => ∃ (a C : Addr) (y : V), vs = [.ref a, y] ∧ OexC K C ∧ PySem.W.findIn K (.ref C) f = some none ∧ H a = some (exo a C none) ∧
  ∀ d, H d = none → d ≠ a → Q .non (upd (upd H d (exd d [(f, y)])) a (exo a C (some d)))
def spE2 (K : PySem.W.Frag) (f g : Str) : Sp := fun vs H Q _ => ∃ (a C : Addr) (y z : V), vs = [.ref a, y, z] ∧ OexC K C ∧ (PySem.W.findIn K (.ref C) f = some none ∧ PySem.W.findIn K (.ref C) g = some none) ∧ H a = some (exo a C none) ∧
  ∀ d, H d = none → d ≠ a → Q .non (upd (upd (upd H d (exd d [(f, y)])) a (exo a C (some d))) d (exd d [(g, z), (f, y)]))
section
variable {X : Cx} {C : Addr}
theorem err0_reads {H1 : Hp} {Q : XK} {vs : List V} (O : OexC X.K C) (h : vs = []) (q : Q (.ref C) none H1) : vs.length ≤ 1000 ∧ ∀ a, H1 a = none → spE0 X.K (.ref a :: vs) (upd H1 a (exo a C none)) (MkQ C a H1 Q) (fun _ _ _ => False) := by
  subst h
  exact ⟨by simp, fun a na => ⟨a, C, rfl, O, upd_same, rfl, .inl ⟨rfl, q⟩⟩⟩
theorem upd_end {H1 : Hp} {a d : Addr} {C : Addr} {o u : HO} (na : H1 a = none) (ne : d ≠ a) : upd (del (upd (upd (upd H1 a (exo a C none)) d o) a (exo a C (some d))) a) d u = upd H1 d u := by
  funext b
  by_cases hb : b = d
  · rw [hb, upd_same, upd_same]
  · rw [upd_ne hb, upd_ne hb]
    by_cases ha : b = a
    · rw [ha, del_same, na]
    · rw [del_ne ha, upd_ne ha, upd_ne hb, upd_ne ha]
theorem err1_reads {H1 : Hp} {Q : XK} {f : Str} {y : V} (O : OexC X.K C) (hn : PySem.W.findIn X.K (.ref C) f = some none) (q : ∀ d, H1 d = none → Q (.ref C) (some d) (upd H1 d (.xd [(f, y)]))) :
    ([y] : List V).length ≤ 1000 ∧ ∀ a, H1 a = none → spE1 X.K f (.ref a :: [y]) (upd H1 a (exo a C none)) (MkQ C a H1 Q) (fun _ _ _ => False) := by
  refine ⟨by simp, fun a na => ⟨a, C, y, rfl, O, hn, upd_same, fun d nd ne => ⟨rfl, .inr ⟨d, [(f, y)], upd_same, ?_, ?_, ?_⟩⟩⟩⟩
  · rw [upd_ne ne, upd_same]
  · rw [upd_ne ne] at nd; exact nd
  · rw [upd_end na ne]
    rw [upd_ne ne] at nd
    exact q d nd
theorem upd_end2 {H1 : Hp} {a d : Addr} {C : Addr} {o o2 u : HO} (na : H1 a = none) (ne : d ≠ a) : upd (del (upd (upd (upd (upd H1 a (exo a C none)) d o) a (exo a C (some d))) d o2) a) d u = upd H1 d u := by
  funext b
  by_cases hb : b = d
  · rw [hb, upd_same, upd_same]
  · rw [upd_ne hb, upd_ne hb]
    by_cases ha : b = a
    · rw [ha, del_same, na]
    · rw [del_ne ha, upd_ne hb, upd_ne ha, upd_ne hb, upd_ne ha]
theorem err2_reads {H1 : Hp} {Q : XK} {f g : Str} {y z : V} (O : OexC X.K C) (hn : PySem.W.findIn X.K (.ref C) f = some none) (hn2 : PySem.W.findIn X.K (.ref C) g = some none) (q : ∀ d, H1 d = none → Q (.ref C) (some d) (upd H1 d (.xd [(g, z), (f, y)]))) :
    ([y, z] : List V).length ≤ 1000 ∧ ∀ a, H1 a = none → spE2 X.K f g (.ref a :: [y, z]) (upd H1 a (exo a C none)) (MkQ C a H1 Q) (fun _ _ _ => False) := by
  refine ⟨by simp, fun a na => ⟨a, C, y, z, rfl, O, ⟨hn, hn2⟩, upd_same, fun d nd ne => ⟨rfl, .inr ⟨d, [(g, z), (f, y)], ?_, upd_same, ?_, ?_⟩⟩⟩⟩
  · rw [upd_ne (Ne.symm ne), upd_same]
  · rw [upd_ne ne] at nd; exact nd
  · rw [upd_end2 na ne]
    rw [upd_ne ne] at nd
    exact q d nd
end
end Lt

/-! # try, several clauses, with names and without -/
namespace Lt
open PySem PySem.Spec L2
open PyProof.Rows (AllBare)

/-- how a clause ends whose name stands in slot i -/
def endAs (i : Nat) (D : Ends) : Ends := { nx := fun σ' H' => D.nx (σ'.set i none) H', rt := D.rt, bk := fun σ' H' => D.bk (σ'.set i none) H', ct := fun σ' H' => D.ct (σ'.set i none) H' }
/-- what a clause is: the class it names, the slot of its name, its suite -/
structure Cl where
  c : Value
  i : Option Nat
  ts : Addr → Value → Option Addr → TS
def Cl.go (k : Cl) (D : Ends) (a : Addr) (cls : Value) (d : Option Addr) (σ : St) (H : Hp) : Prop := match k.i with
  | none => k.ts a cls d D σ H
  | some i => k.ts a cls d (endAs i D) (σ.set i (some (.ref a))) H
def wMix (K : PySem.W.Frag) (Wout : WX) (D : Ends) : List Cl → WX
  | [] => Wout
  | k :: r => fun cls d σ H => ∃ b, PySem.W.exmOne K cls k.c = some b ∧ (b = true → ∀ a, H a = none → k.go D a cls d σ H) ∧ (b = false → wMix K Wout D r cls d σ H)
inductive ClsOk (X : Cx) : List ExceptHandler → List Cl → Prop
  | nil : ClsOk X [] []
  | plain {x : Str} {c : Value} {ts : Addr → Value → Option Addr → TS} {b₀ : Stmt} {suite : List Stmt} {np p2 : Pos} {hds : List ExceptHandler} {l : List Cl} (hc : Names X x c)
      (hsu : ∀ (a : Addr) (oe : Obj) (cls : Value) (d : Option Addr) (pn : List (Addr × Obj)), Zc cls d oe → (∃ vs, oe.data = .fields vs) → PSs (X.suite a ((a, oe) :: pn)) (b₀ :: suite) (ts a cls d)) (r : ClsOk X hds l) :
      ClsOk X (.ExceptHandler (some (.Name x np)) none (b₀ :: suite) p2 :: hds) (⟨c, none, ts⟩ :: l)
  | named {x n : Str} {i : Nat} {c : Value} {ts : Addr → Value → Option Addr → TS} {b₀ : Stmt} {suite : List Stmt} {np p2 : Pos} {hds : List ExceptHandler} {l : List Cl} (hc : Names X x c) (hN : X.N.Nodup) (hi : X.N[i]? = some n) (hln : X.env.kindOf n = some .local)
      (hsu : ∀ (a : Addr) (oe : Obj) (cls : Value) (d : Option Addr) (pn : List (Addr × Obj)), Zc cls d oe → (∃ vs, oe.data = .fields vs) → PSs (X.suite a ((a, oe) :: pn)) (b₀ :: suite) (ts a cls d)) (r : ClsOk X hds l) :
      ClsOk X (.ExceptHandler (some (.Name x np)) (some n) (b₀ :: suite) p2 :: hds) (⟨c, some i, ts⟩ :: l)
section
variable {X : Cx} {body : List Stmt} {h₀ : ExceptHandler} {hds : List ExceptHandler} {l : List Cl} {pos : Pos} {tb : WX → TS} {Wout : WX}
theorem ps_try_mix (hs : X.stack = X.env :: X.outer) (hf : X.env.frame = some X.env.locals) (tk : Takes X Wout)
    (hb : ∀ (W : WX) (pn : List (Addr × Obj)) (xe : Value → Shared → Prop), Takes (X.tr pn xe) W → PassesOwn (model X.prog X.w) X.A X.env xe → PSs (X.tr pn xe) body (tb W)) (hh : ClsOk X (h₀ :: hds) l) :
    PS X (.Try body (h₀ :: hds) [] [] pos) (fun D σ H => tb (wMix X.K Wout D l) D σ H) := by
  refine ⟨fun pins s σ H D I h => ?_⟩
  have ok := I.ok
  have frm : X.A.frames = some (X.env :: X.outer) := by rw [ok.frames, hs]
  refine wpAny_Try_except ?_
  refine wpAny_mono ((hb (wMix X.K Wout D l) (X.pn ++ pins) (fun e s₁ => wpAny (model X.prog X.w) X.A (noteFrame e X.env) (fun _ s₂ => wpAny (model X.prog X.w) X.A (setFlight e none) (fun _ s₃ =>
    wpAny (model X.prog X.w) X.A (handleBy e X.env (h₀ :: hds)) (SP X pins D) X.xe s₃) X.xe s₂) X.xe s₁) (fun u s' caught => ?_) PassesOwn.looking).run [] s σ H D (I.toTry _) h) (fun f s1 done => ?_) (fun e s1 he => he)
  · obtain ⟨a, B, sI, pins', σ', H', cls, d, rfl, J', nb, up, sky, na, os, ag, w⟩ := caught
    have J : Inv X pins σ' H' sI := J'.ofTry ok
    have sky2 : Sky B (X.env :: X.outer) a (Zc cls d) X.env.locals s'.heap := by rw [← hs]; exact sky
    show wpAny (model X.prog X.w) X.A (noteFrame (.ref a) X.env) _ _ _
    refine Sky.land Zc.steady frm hf sky2 fun h3 fl3 up3 => ?_
    have J3 : Inv X pins σ' H' { s' with heap := h3 } := J.landed nb fl3.1 (up.trans up3) os ag
    obtain ⟨oe3, vs3, he3, hz3, hd3⟩ := fl3.there
    have no : a ∉ frs (X.env :: X.outer) := fun hm => by
      obtain ⟨_, o', e', hnf⟩ := fl3.2.2.1.mem hm
      rw [he3] at e'; cases e'
      exact hnf _ hd3
    have nL : a ≠ X.env.locals := fun z => no (List.mem_filterMap.mpr ⟨X.env, List.mem_cons_self, by rw [hf, z]⟩)
    have nF : a ∉ X.fs := fun hm => by
      obtain ⟨e, he, q⟩ := List.mem_filterMap.mp hm
      exact no (List.mem_filterMap.mpr ⟨e, List.mem_cons_of_mem _ he, q⟩)
    have S3 := J3.suite he3 hd3 na nL nF
    have LT : PySem.W.Looks (model X.prog X.w) h3 (typeOf (.ref a)) cls := fun A Q E s k q => wpAny_typeOf_ref (k _ _ he3) (by rw [hz3.1]; exact q)
    have named : ∀ {x : Str} {c : Value} {np : Pos} {Q : Value → Shared → Prop} {E : Value → Shared → Prop}, Names X x c → Q c { s' with heap := h3 } → wpAny (model X.prog X.w) (X.A.mark (some (.ref a))) (eval (.Name x np) X.env) Q E { s' with heap := h3 } := fun {x c np Q E} hc q => by
      obtain ⟨hg, hdbg, hm | ⟨hm, hv, hnn⟩⟩ := hc
      · exact ld_glob (X := X.suite a ((a, oe3) :: (X.pn ++ pins))) S3 hg hm q hdbg
      · exact ld_blt (X := X.suite a ((a, oe3) :: (X.pn ++ pins))) S3 hg hm hv q hnn hdbg
    have walk : ∀ {hds' : List ExceptHandler} {l' : List Cl}, ClsOk X hds' l' → wMix X.K Wout D l' cls d σ' H' → wpAny (model X.prog X.w) X.A (handleBy (.ref a) X.env hds') (SP X pins D) X.xe { s' with heap := h3 } := by
      intro hds' l' hk
      induction hk with
      | nil =>
        intro w
        refine wpAny_handleBy_nil ?_
        obtain ⟨k1, k2, k3, oe, vs, T, oT, ts', he, hz, hd, h1, hr⟩ := id fl3
        unfold PySem.passOn
        refine wpAny_bind (wpAny_field he hd h1 ?_)
        rw [if_neg (show ¬ ((Value.ref T == Value.none) = true) from by simp)]
        have fin : wpAny (model X.prog X.w) X.A (setFlight (.ref a) X.env.frame) (fun _ s4 => wpAny (model X.prog X.w) X.A (throw (.ref a) : Sem Flow) (SP X pins D) X.xe s4) X.xe { s' with heap := h3 } := by
          rw [hf]
          refine HandSPX.setFlight_upZ fl3 fun h4 hh4 up4 => wpAny_throw (tk _ _ ?_)
          exact ⟨a, B, sI, pins, σ', H', cls, d, rfl, J, nb, (up.trans up3).trans up4, .inr (.inr (by rw [hs]; exact hh4)), na, os, ag, w⟩
        first
          | exact wpAny_bind (wpAny_pure (wpAny_bind fin))
          | exact wpAny_bind fin
      | @plain x c ts b₀ suite np p2 hds2 l2 hc hsu r ih =>
        intro w
        obtain ⟨b, hb1, yes, other⟩ := w
        refine wpAny_handleBy_cons (codeAny_handlers_test ?_) (by intro q; cases q)
        have LM := PySem.W.exm_one (M := model X.prog X.w) (J3.kIn) LT hb1
        refine named hc (LM.here ?_)
        cases b with
        | true =>
          refine codeAny_handlers_suite ?_
          refine HandSPX.lands_againZ fl3 fun h4 fl4 up4 => ?_
          have J4 : Inv X pins σ' H' { s' with heap := h4 } := J.landed nb fl4.1 ((up.trans up3).trans up4) os ag
          obtain ⟨oe4, vs4, he4, hz4, hd4⟩ := fl4.there
          have S4 := J4.suite he4 hd4 na nL nF
          refine wpAny_mono ((hsu a oe4 cls d (X.pn ++ pins) hz4 ⟨_, hd4⟩).run [] _ _ H' _ S4 (yes rfl a na)) (fun f s6 hsp => ?_) (fun _ _ z => False.elim z)
          cases f with
          | next => obtain ⟨σ6, H6, S6, q6⟩ := hsp; exact ⟨_, _, S6.unsuite ok, q6⟩
          | brk => obtain ⟨σ6, H6, S6, q6⟩ := hsp; exact ⟨_, _, S6.unsuite ok, q6⟩
          | cont => obtain ⟨σ6, H6, S6, q6⟩ := hsp; exact ⟨_, _, S6.unsuite ok, q6⟩
          | ret u => obtain ⟨v6, σ6, H6, S6, r6, q6⟩ := hsp; exact ⟨_, _, _, S6.unsuite ok, r6, q6⟩
        | false =>
          show wpAny _ X.A (handleBy (.ref a) X.env hds2) _ _ _
          exact ih (other rfl)
      | @named x n i c ts b₀ suite np p2 hds2 l2 hc hN hi hln hsu r ih =>
        intro w
        obtain ⟨b, hb1, yes, other⟩ := w
        refine wpAny_handleBy_cons (codeAny_handlers_test ?_) (by intro q; cases q)
        have LM := PySem.W.exm_one (M := model X.prog X.w) (J3.kIn) LT hb1
        refine named hc (LM.here ?_)
        cases b with
        | true =>
          refine codeAny_handlers_suite_as ?_
          refine HandSPX.lands_againZ fl3 fun h4 fl4 up4 => ?_
          have J4 : Inv X pins σ' H' { s' with heap := h4 } := J.landed nb fl4.1 ((up.trans up3).trans up4) os ag
          obtain ⟨oe4, vs4, he4, hz4, hd4⟩ := fl4.there
          have S4 := J4.suite he4 hd4 na nL nF
          refine store_ok (X := X.suite a ((a, oe4) :: (X.pn ++ pins))) (v := .ref a) S4 hN hi (.inl hln) rfl (fun s5 S5 => ?_) (.inr hln)
          refine wpAny_mono ((hsu a oe4 cls d (X.pn ++ pins) hz4 ⟨_, hd4⟩).run [] s5 _ H' _ S5 (yes rfl a na)) (fun f s6 hsp => ?_) (fun _ _ z => False.elim z)
          have gone : ∀ {σ6 : St} {H6 : Hp} {Q : Shared → Prop}, Inv (X.suite a ((a, oe4) :: (X.pn ++ pins))) [] σ6 H6 s6 → (∀ s7, Inv X pins (σ6.set i none) H6 s7 → Q s7) →
              wpAny (model X.prog X.w) X.A (do bindName X.env n .none; unbindBehindTheSuite X.env n p2) (fun _ s7 => Q s7) X.xe s6 := fun {σ6 H6 Q} S6 hq => gone_ok (S6.unsuite ok) hN hi hln hq
          cases f with
          | next => obtain ⟨σ6, H6, S6, q6⟩ := hsp; exact gone S6 fun s7 J7 => ⟨_, _, J7, q6⟩
          | brk => obtain ⟨σ6, H6, S6, q6⟩ := hsp; exact gone S6 fun s7 J7 => ⟨_, _, J7, q6⟩
          | cont => obtain ⟨σ6, H6, S6, q6⟩ := hsp; exact gone S6 fun s7 J7 => ⟨_, _, J7, q6⟩
          | ret u => obtain ⟨v6, σ6, H6, S6, r6, q6⟩ := hsp; exact gone S6 fun s7 J7 => ⟨_, _, _, J7, r6, q6⟩
        | false =>
          show wpAny _ X.A (handleBy (.ref a) X.env hds2) _ _ _
          exact ih (other rfl)
    exact walk hh w
  · cases f with
    | next => obtain ⟨σ', H', J', q⟩ := done; exact wpAny_execs_nil ⟨σ', H', J'.ofTry ok, q⟩
    | brk => obtain ⟨σ', H', J', q⟩ := done; exact ⟨σ', H', J'.ofTry ok, q⟩
    | cont => obtain ⟨σ', H', J', q⟩ := done; exact ⟨σ', H', J'.ofTry ok, q⟩
    | ret u => obtain ⟨v, σ', H', J', r, q⟩ := done; exact ⟨v, σ', H', J'.ofTry ok, r, q⟩
end
end Lt

/-! # raise, try: the rules on outcomes -/
namespace Lt
open PySem PySem.Spec L2

/-! ### raise -/
/-- an error class: called with so many values, which become the fields ns -/
structure CalE (P : Program) (w : World) (K : PySem.W.Frag) (mg : Str → Option Value) (base : Heap) (x : Str) (C : Addr) (ns : List Str) (k : Nat) (sp : Sp) : Prop where
  ex : ∃ (fI : Addr) (fd : FuncData) (ps : List Str), mg x = some (.ref C) ∧ ErrC K C fI ∧ L2.Binds K fd ps [] ∧ FnOk P w K mg base (L2.CX P w) k fI fd ps sp
  no : ∀ n ∈ ns, PySem.W.findIn K (.ref C) n = some none
def sRaise (C : Addr) (ns : List Str) (gs : Rho → Out (List D)) : Rho → Fl := fun ρ => (gs ρ).fl fun ds ρ1 => if ds.length = ns.length then .exc C ns.reverse ds.reverse ρ1 else .stuck
section
variable {X : Cx} {m : Fm} {W : WX} {C : Addr} {x f g : Str} {k j : Nat} {e e2 : Expr} {gs : Rho → Out (List D)} {p pos pos2 : Pos}
theorem s_raise0 (c : CalE X.prog X.w X.K X.mg X.base x C [] k (spE0 X.K)) (hr : Room j X.A) (tk : Takes X W) (hk : k + 1 ≤ j := by decide) (hc : X.calm = true := by rfl) (hg : Gl X x := by rfl) (hdb : (x == ("__debug__" : Str)) = false := by decide) :
    DS X m W (.Raise (some (.Call (.Name x p) [] [] pos)) none pos2) (sRaise C [] aNil) := by
  obtain ⟨⟨fI, fd, ps, hm, E, hb, F1⟩, _⟩ := c
  refine PS.imp (ps_raise hc tk (pmk_err0 E F1 (hr.mono hk) hb hg hm hdb)) fun Dn σ H h => ?_
  obtain ⟨F, ρ, r, a⟩ := h
  exact err0_reads E.ox rfl (a F σ H none r (Same.refl _) (.inl ⟨rfl, rfl, rfl⟩))
theorem s_raise1 (c : CalE X.prog X.w X.K X.mg X.base x C [f] k (spE1 X.K f)) (hr : Room j X.A) (tk : Takes X W) (ha : DL X m W [e] gs) (hk : k + 1 ≤ j := by decide) (hc : X.calm = true := by rfl) (hg : Gl X x := by rfl) (hdb : (x == ("__debug__" : Str)) = false := by decide)
    (he : starEach [e] X.env = (false, eval e X.env) :: starEach [] X.env := by rfl) (hpl : (backTo pos (starEach [] X.env)).any (·.1) = false := by rfl) :
    DS X m W (.Raise (some (.Call (.Name x p) [e] [] pos)) none pos2) (sRaise C [f] gs) := by
  obtain ⟨⟨fI, fd, ps, hm, E, hb, F1⟩, no⟩ := c
  refine PS.imp (ps_raise hc tk (pmk_err E F1 (hr.mono hk) hb hg hm ha hdb he hpl)) fun Dn σ H h => ?_
  obtain ⟨F, ρ, r, a⟩ := h
  refine ⟨F, ρ, r, (Aft.fl a).imp fun ds ρ1 F1 H1 r1 s1 a1 vs rvs => ?_⟩
  match ds, a1, rvs with
  | [d], a1, rvs =>
    obtain ⟨y, rfl, ry⟩ := rvs.one'
    exact err1_reads E.ox (no f (by simp)) fun p nd => a1 F1 σ (upd H1 p (.xd [(f, y)])) (some p) (r1.laid nd) (Same.refl _) (.inr ⟨p, [(f, y)], rfl, upd_same, rfl, ⟨y, [], rfl, ry, rfl⟩, r1.he_none nd, r1.f_none nd⟩)
  | [], a1, _ => exact a1.elim
  | _ :: _ :: _, a1, _ => rw [if_neg (by simp)] at a1; exact a1.elim
theorem s_raise2 (c : CalE X.prog X.w X.K X.mg X.base x C [f, g] k (spE2 X.K f g)) (hr : Room j X.A) (tk : Takes X W) (ha : DL X m W [e, e2] gs) (hk : k + 1 ≤ j := by decide) (hc : X.calm = true := by rfl) (hg : Gl X x := by rfl) (hdb : (x == ("__debug__" : Str)) = false := by decide)
    (he : starEach [e, e2] X.env = (false, eval e X.env) :: starEach [e2] X.env := by rfl) (hpl : (backTo pos (starEach [e2] X.env)).any (·.1) = false := by rfl) :
    DS X m W (.Raise (some (.Call (.Name x p) [e, e2] [] pos)) none pos2) (sRaise C [f, g] gs) := by
  obtain ⟨⟨fI, fd, ps, hm, E, hb, F1⟩, no⟩ := c
  refine PS.imp (ps_raise hc tk (pmk_err E F1 (hr.mono hk) hb hg hm ha hdb he hpl)) fun Dn σ H h => ?_
  obtain ⟨F, ρ, r, a⟩ := h
  refine ⟨F, ρ, r, (Aft.fl a).imp fun ds ρ1 F1 H1 r1 s1 a1 vs rvs => ?_⟩
  match ds, a1, rvs with
  | [d, d2], a1, rvs =>
    obtain ⟨y, z, rfl, ry, rz⟩ := rvs.two'
    exact err2_reads E.ox (no f (by simp)) (no g (by simp)) fun p nd => a1 F1 σ (upd H1 p (.xd [(g, z), (f, y)])) (some p) (r1.laid nd) (Same.refl _) (.inr ⟨p, [(g, z), (f, y)], rfl, upd_same, rfl, ⟨z, _, rfl, rz, y, [], rfl, ry, rfl⟩, r1.he_none nd, r1.f_none nd⟩)
  | [], a1, _ => exact a1.elim
  | [_], a1, _ => rw [if_neg (by simp)] at a1; exact a1.elim
  | _ :: _ :: _ :: _, a1, _ => rw [if_neg (by simp)] at a1; exact a1.elim
end

/-! ### try -/
/-- a clause: the class it names (all: every error here is of that class), the slot of its name, its suite -/
structure Hd where
  C : Addr
  all : Bool
  i : Option Nat
  g : Rho → Fl
/-- no slot holds an error -/
def clean (i : Nat) (ρ : Rho) : Rho := (ρ.map fun s => match s with | .exn _ _ => .no | s => s).set i .no
def handle : List Hd → Addr → List Str → List D → Rho → Fl
  | [], C, ns, ds, ρ => .exc C ns ds ρ
  | h :: r, C, ns, ds, ρ => if C = h.C ∨ h.all = true then
      match h.i with
      | none => match h.g ρ with
        | .nx ρ2 => .nx ρ2
        | _ => .stuck
      | some i => if ns = [] ∨ h.all = true then .stuck else match h.g (ρ.set i (.exn ns ds)) with
        | .nx ρ2 => .nx (clean i ρ2)
        | _ => .stuck
    else handle r C ns ds ρ
def sTry (fb : Rho → Fl) (cs : List Addr) (hs : List Hd) : Rho → Fl := fun ρ => match fb ρ with
  | .exc C ns ds ρ' => if C ∈ cs then handle hs C ns ds ρ' else .stuck
  | r => r
/-- the frame of a suite knows the error that is handled -/
def ExOk (m : Fm) (a : Addr) (d : Option Addr) : Prop := ∀ a' dd gs, m.ex = some (a', dd, gs) → a' = a ∧ d = some dd ∧ m.He dd = some (.xd gs) ∧ dd ∉ m.B
def tSu (K : PySem.W.Frag) (h : Hd) (a : Addr) (cls : Value) (d : Option Addr) : TS := fun D σ H => ∃ m, ExOk m a d ∧ (h.all = false → cls = .ref h.C) ∧ tS K m W0 h.g D σ H
def Hd.cl (K : PySem.W.Frag) (h : Hd) : Cl := ⟨.ref h.C, h.i, tSu K h⟩
section
variable {K : PySem.W.Frag} {m : Fm} {W : WX} {F F2 H H2 : Hp} {ρ ρ2 : Rho} {σ σ2 : St} {a d : Addr} {gs : List (Str × V)} {ns : List Str} {ds : List D} {i : Nat}
/-- the frame of a suite -/
def Fm.hand (m : Fm) (F : Hp) (a d : Addr) (gs : List (Str × V)) : Fm := ⟨F, upd m.He d (.xd gs), m.B, some (a, d, gs)⟩
theorem own_kind {o : O} {ho : HO} (h : RepO K F o ho) : ∀ fs, ho ≠ .xd fs := by
  intro fs e
  subst e
  cases o <;> simp [RepO] at h
theorem Rel.toEx (r : Rel K m F ρ σ H) (hx : m.ex = none) (hn : m.He d = none) (hd : H d = some (.xd gs)) (hf : F d = none) (e1 : gs.map (·.1) = ns) (e2 : Reps K F ds (gs.map (·.2))) : Rel K (m.hand F a d gs) F (ρ.set i (.exn ns ds)) (σ.set i (some (.ref a))) H := by
  have r1 : Rel K (m.hand F a d gs) F ρ σ H := {
    sub0 := Same.refl _
    sub := r.sub
    prot := fun b o h n => by
      have h' : upd m.He d (.xd gs) b = some o := h
      by_cases e : b = d
      · subst e; rw [upd_same] at h'; cases h'; exact hd
      · rw [upd_ne e] at h'; exact r.prot b o h' n
    grow := fun b h => .inl h
    bor := r.bor
    len := r.len
    slot := fun j s h => by
      obtain ⟨ov, h1, h2⟩ := r.slot j s h
      refine ⟨ov, h1, ?_⟩
      cases s with
      | no => trivial
      | exn _ _ => obtain ⟨a', d', gs', _, z, _⟩ := h2; rw [hx] at z; cases z
      | val d => exact h2
      | own b o' =>
        obtain ⟨q, ho, e1, e2, e3, e4, e5⟩ := h2
        refine ⟨q, ho, e1, e2, e3, e4, ?_⟩
        cases b with
        | some a' => exact e5
        | none =>
          show upd m.He d (.xd gs) q = none
          rw [upd_ne (fun e => by subst e; rw [hd] at e2; cases e2; exact own_kind e3 _ rfl)]
          exact e5
    dist := r.dist
    bh := fun b h => by
      show upd m.He d (.xd gs) b ≠ none
      by_cases e : b = d
      · subst e; rw [upd_same]; simp
      · rw [upd_ne e]; exact r.bh b h }
  exact r1.store i ⟨a, d, gs, rfl, rfl, e1, e2⟩ fun _ _ _ _ _ z => by cases z
theorem clean_len : (clean i ρ).length = ρ.length := by unfold clean; simp
theorem clean_at {j : Nat} {s : S} (h : (clean i ρ)[j]? = some s) : s = .no ∨ (j ≠ i ∧ ρ[j]? = some s ∧ ∀ ns ds, s ≠ .exn ns ds) := by
  unfold clean at h
  by_cases c : j = i
  · subst c
    rw [List.getElem?_set] at h
    simp at h
    exact .inl h.2.symm
  · rw [List.getElem?_set_ne (Ne.symm c), List.getElem?_map] at h
    obtain ⟨s', h1, h2⟩ := Option.map_eq_some_iff.mp h
    cases s' with
    | exn _ _ => exact .inl h2.symm
    | no => exact .inl h2.symm
    | val d => refine .inr ⟨c, by rw [h1]; exact congrArg some h2, fun _ _ z => ?_⟩; rw [← h2] at z; cases z
    | own b o => refine .inr ⟨c, by rw [h1]; exact congrArg some h2, fun _ _ z => ?_⟩; rw [← h2] at z; cases z
theorem Rel.fromEx (r : Rel K m F ρ σ H) (hn : m.He d = none) (r2 : Rel K (m.hand F a d gs) F2 ρ2 σ2 H2) : Rel K m F2 (clean i ρ2) (σ2.set i none) H2 where
  sub0 := r.sub0.trans r2.sub0
  sub := r2.sub
  prot := fun b o h n => r2.prot b o (by show upd m.He d (.xd gs) b = some o; rw [upd_ne (ne_of_none h hn)]; exact h) n
  grow := fun b h => by
    rcases r2.grow b h with q | q
    · exact r.grow b q
    · refine .inr ?_
      have q' : upd m.He d (.xd gs) b = none := q
      by_cases e : b = d
      · subst e; exact hn
      · rw [upd_ne e] at q'; exact q'
  bor := r2.bor
  len := by rw [clean_len, List.length_set]; exact r2.len
  slot := fun j s h => by
    have hj : j < (clean i ρ2).length := (List.getElem?_eq_some_iff.mp h).1
    rcases clean_at h with e | ⟨ne, h1, nx⟩
    · subst e
      rw [clean_len, r2.len] at hj
      exact ⟨_, List.getElem?_eq_getElem (by rw [List.length_set]; exact hj), trivial⟩
    · obtain ⟨ov, q1, q2⟩ := r2.slot j s h1
      refine ⟨ov, by rw [List.getElem?_set_ne (Ne.symm ne)]; exact q1, ?_⟩
      cases s with
      | no => trivial
      | exn _ _ => exact absurd rfl (nx _ _)
      | val d => exact q2
      | own b o' =>
        obtain ⟨q, ho, e1, e2, e3, e4, e5⟩ := q2
        refine ⟨q, ho, e1, e2, e3, e4, ?_⟩
        cases b with
        | some a' => exact e5
        | none =>
          have q' : upd m.He d (.xd gs) q = none := e5
          show m.He q = none
          by_cases e : q = d
          · subst e; exact hn
          · rw [upd_ne e] at q'; exact q'
  dist := fun j k c b o b' o' ne h1 h2 h3 h4 => by
    rcases clean_at h1 with e | ⟨n1, g1, _⟩
    · cases e
    · rcases clean_at h2 with e | ⟨n2, g2, _⟩
      · cases e
      · rw [List.getElem?_set_ne (Ne.symm n1)] at h3
        rw [List.getElem?_set_ne (Ne.symm n2)] at h4
        exact r2.dist j k c b o b' o' ne g1 g2 h3 h4
  bh := r.bh
end
/-- the clauses, one by one -/
inductive HdOk (X : Cx) (cs : List Addr) : List ExceptHandler → List Hd → Prop
  | nil : HdOk X cs [] []
  | plain {x : Str} {C : Addr} {all : Bool} {g : Rho → Fl} {b₀ : Stmt} {suite : List Stmt} {np p2 : Pos} {hds : List ExceptHandler} {l : List Hd} (hc : Names X x (.ref C)) (hx : ∀ C' ∈ cs, PySem.W.exmOne X.K (.ref C') (.ref C) = some (decide (C' = C ∨ all = true)))
      (hsu : ∀ (a : Addr) (oe : Obj) (cls : Value) (d : Option Addr) (pn : List (Addr × Obj)) (m : Fm), Zc cls d oe → (∃ vs, oe.data = .fields vs) → DB (X.suite a ((a, oe) :: pn)) m W0 (b₀ :: suite) g) (r : HdOk X cs hds l) :
      HdOk X cs (.ExceptHandler (some (.Name x np)) none (b₀ :: suite) p2 :: hds) (⟨C, all, none, g⟩ :: l)
  | named {x n : Str} {i : Nat} {C : Addr} {g : Rho → Fl} {b₀ : Stmt} {suite : List Stmt} {np p2 : Pos} {hds : List ExceptHandler} {l : List Hd} (hc : Names X x (.ref C)) (hN : X.N.Nodup) (hi : X.N[i]? = some n) (hln : X.env.kindOf n = some .local)
      (hx : ∀ C' ∈ cs, PySem.W.exmOne X.K (.ref C') (.ref C) = some (decide (C' = C ∨ false = true)))
      (hsu : ∀ (a : Addr) (oe : Obj) (d : Option Addr) (pn : List (Addr × Obj)) (m : Fm), Zc (.ref C) d oe → (∃ vs, oe.data = .fields vs) → ExOk m a d → DB (X.suite a ((a, oe) :: pn)) m W0 (b₀ :: suite) g) (r : HdOk X cs hds l) :
      HdOk X cs (.ExceptHandler (some (.Name x np)) (some n) (b₀ :: suite) p2 :: hds) (⟨C, false, some i, g⟩ :: l)
section
variable {X : Cx} {m : Fm} {W : WX} {cs : List Addr} {body : List Stmt} {h₀ : ExceptHandler} {hds : List ExceptHandler} {l : List Hd} {fb : Rho → Fl} {pos : Pos}
theorem HdOk.cls (h : HdOk X cs hds l) : ClsOk X hds (l.map (Hd.cl X.K)) := by
  induction h with
  | nil => exact .nil
  | plain hc hx hsu r ih => exact .plain hc (fun a oe cls d pn hz hf => ⟨fun pins s σ H D I ⟨m, _, _, q⟩ => (hsu a oe cls d pn m hz hf).run pins s σ H D I q⟩) ih
  | named hc hN hi hln hx hsu r ih => exact .named hc hN hi hln (fun a oe cls d pn hz hf => ⟨fun pins s σ H D I ⟨m, ok, ec, q⟩ => by
      have e := ec rfl
      subst e
      exact (hsu a oe d pn m hz hf ok).run pins s σ H D I q⟩) ih
theorem handle_of (h : HdOk X cs hds l) (hx : m.ex = none) {F : Hp} {C' : Addr} (hC : C' ∈ cs) {ns : List Str} {ds : List D} {ρ : Rho} {Dn : Ends} {Rt : R → Rho → St → Hp → Hp → Prop} (a : AftF X.K m W F (handle l C' ns ds ρ) Dn Rt) {F' : Hp} {σ' : St} {H' : Hp} {dd : Option Addr}
    (r : Rel X.K m F' ρ σ' H') (s : Same F F') (x : ExcAt X.K m.He F' H' ns ds dd) : wMix X.K W Dn (l.map (Hd.cl X.K)) (.ref C') dd σ' H' := by
  induction h with
  | nil => exact a F' σ' H' dd r s x
  | @plain xn C all g b₀ suite np p2 hds l hc he hsu rr ih =>
    refine ⟨_, he C' hC, fun hb a0 na => ?_, fun hb => ih ?_⟩
    · have hb := of_decide_eq_true hb
      unfold handle at a
      rw [if_pos hb] at a
      show tSu X.K ⟨C, all, none, g⟩ a0 (.ref C') dd Dn σ' H'
      refine ⟨m, (fun a' d' gs' z => by rw [hx] at z; cases z), fun ha => ?_, F', ρ, r, ?_⟩
      · rcases hb with e | e
        · rw [e]
        · have e' : all = true := e
          have ha' : all = false := ha
          rw [e'] at ha'; cases ha'
      · show AftF X.K m W0 F' (g ρ) Dn _
        have a' : AftF X.K m W F (match g ρ with | .nx ρ2 => .nx ρ2 | _ => .stuck) Dn Rt := a
        cases e : g ρ with
        | nx ρ2 =>
          rw [e] at a'
          exact fun F2 σ2 H2 r2 s2 => a' F2 σ2 H2 r2 (s.trans s2)
        | rt _ _ => rw [e] at a'; exact a'.elim
        | bk _ => rw [e] at a'; exact a'.elim
        | ct _ => rw [e] at a'; exact a'.elim
        | exc _ _ _ _ => rw [e] at a'; exact a'.elim
        | stuck => rw [e] at a'; exact a'.elim
    · have hb := of_decide_eq_false hb
      unfold handle at a
      rw [if_neg hb] at a
      exact a
  | @named xn n i C g b₀ suite np p2 hds l hc hN hi hln he hsu rr ih =>
    refine ⟨_, he C' hC, fun hb a0 na => ?_, fun hb => ih ?_⟩
    · have hb := of_decide_eq_true hb
      unfold handle at a
      rw [if_pos hb] at a
      have a' : AftF X.K m W F (if ns = [] ∨ false = true then .stuck else match g (ρ.set i (.exn ns ds)) with | .nx ρ2 => .nx (clean i ρ2) | _ => .stuck) Dn Rt := a
      by_cases c : ns = [] ∨ false = true
      · rw [if_pos c] at a'; exact a'.elim
      · rw [if_neg c] at a'
        rcases x with ⟨z, _⟩ | ⟨d, gs, rfl, h1, h2, h3, h4, h5⟩
        · exact absurd (.inl z) c
        · have r3 := r.toEx (a := a0) (i := i) hx h4 h1 h5 h2 h3
          show tSu X.K ⟨C, false, some i, g⟩ a0 (.ref C') (some d) (endAs i Dn) (σ'.set i (some (.ref a0))) H'
          refine ⟨m.hand F' a0 d gs, fun a' d' gs' z => ?_, fun _ => ?_, F', _, r3, ?_⟩
          · have z' : some (a0, d, gs) = some (a', d', gs') := z
            cases z'
            exact ⟨rfl, rfl, upd_same, fun hm => r.bh d hm h4⟩
          · rcases hb with e | e
            · rw [e]
            · cases e
          · show AftF X.K (m.hand F' a0 d gs) W0 F' (g (ρ.set i (.exn ns ds))) (endAs i Dn) _
            cases e : g (ρ.set i (.exn ns ds)) with
            | nx ρ2 =>
              rw [e] at a'
              exact fun F2 σ2 H2 r2 s2 => a' F2 _ H2 (r.fromEx h4 r2) (s.trans s2)
            | rt _ _ => rw [e] at a'; exact a'.elim
            | bk _ => rw [e] at a'; exact a'.elim
            | ct _ => rw [e] at a'; exact a'.elim
            | exc _ _ _ _ => rw [e] at a'; exact a'.elim
            | stuck => rw [e] at a'; exact a'.elim
    · have hb := of_decide_eq_false hb
      unfold handle at a
      rw [if_neg hb] at a
      exact a
theorem s_try (hs : X.stack = X.env :: X.outer) (hf : X.env.frame = some X.env.locals) (tk : Takes X W) (hx : m.ex = none)
    (hb : ∀ (W' : WX) (pn : List (Addr × Obj)) (xe : Value → Shared → Prop), Takes (X.tr pn xe) W' → PassesOwn (model X.prog X.w) X.A X.env xe → DB (X.tr pn xe) m W' body fb) (hh : HdOk X cs (h₀ :: hds) l) :
    DS X m W (.Try body (h₀ :: hds) [] [] pos) (sTry fb cs l) := by
  refine PS.imp (ps_try_mix (tb := fun W' => tS X.K m W' fb) hs hf tk hb hh.cls) fun Dn σ H h => ?_
  obtain ⟨F, ρ, r, a⟩ := h
  refine ⟨F, ρ, r, ?_⟩
  unfold sTry at a
  cases e : fb ρ with
  | nx ρ2 => rw [e] at a; exact a
  | rt _ _ => rw [e] at a; exact a
  | bk _ => rw [e] at a; exact a
  | ct _ => rw [e] at a; exact a
  | stuck => rw [e] at a; exact a
  | exc C ns ds ρ2 =>
    rw [e] at a
    have a' : AftF X.K m W F (if C ∈ cs then handle l C ns ds ρ2 else .stuck) Dn (fun a _ _ F' H' => ∀ v, RepR X.K m F' H' a v → Dn.rt v H') := a
    by_cases c : C ∈ cs
    · rw [if_pos c] at a'
      exact fun F' σ' H' dd r' s x => handle_of hh hx c a' r' s x
    · rw [if_neg c] at a'; exact a'.elim
end
/-! ### a field of the error that is handled -/
def eExn (i : Nat) (f : Str) : Rho → Out D := fun ρ => match ρ[i]? with
  | some (.exn ns ds) => lift (fldOf f ns ds) ρ
  | _ => .stuck
theorem d_byX {X : Cx} {a C : Addr} {oe : Obj} {d : Option Addr} {pn : List (Addr × Obj)} {m : Fm} {W : WX} {i : Nat} {x f : Str} {p pos : Pos} (T : XfC X.K C) (hno : PySem.W.findIn X.K (.ref C) f = some none) (hz : Zc (.ref C) d oe) (hf : ∃ vs, oe.data = .fields vs) (ok : ExOk m a d)
    (hb : attributeBase (.Name x p) f X.env (eval (.Name x p) X.env) = eval (.Name x p) X.env := by rfl) (hN : X.N[i]? = some x := by rfl) (hv : Vis X.env.scope x := by first | exact Or.inl rfl | exact Or.inr (Or.inl rfl) | exact Or.inr (Or.inr rfl)) (hd : (x == ("__debug__" : Str)) = false := by decide)
    (hcd : (x == ("__classdict__" : Str)) = false := by decide) : DE (X.suite a ((a, oe) :: pn)) m W (.Attribute (.Name x p) f pos) (eExn i f) := by
  refine PE.imp (pe_xf T hno hz hf (pe_var (X := X.suite a ((a, oe) :: pn)) (i := i) hN hv hd hcd) hb) fun σ H Q h => ?_
  obtain ⟨F, ρ, r, q⟩ := h
  unfold eExn at q
  cases e : ρ[i]? with
  | none => rw [e] at q; exact q.elim
  | some s =>
    rw [e] at q
    cases s with
    | val _ => exact q.elim
    | no => exact q.elim
    | own _ _ => exact q.elim
    | exn ns ds =>
      obtain ⟨ov, h1, a', dd, gs, h2, h3, h4, h5⟩ := r.slot i _ e
      subst h2
      obtain ⟨rfl, e2, e3, e4⟩ := ok a' dd gs h3
      obtain ⟨z, hz2, q9⟩ := Aft.lift q
      obtain ⟨v, l, rv⟩ := lookup_rep h5 (by rw [h4]; exact hz2)
      exact ⟨_, h1, rfl, rfl, dd, gs, v, e2, r.prot dd _ e3 e4, l, q9 F H r (Same.refl _) v (Rep.mono r.sub0 _ _ rv)⟩
/-! ### read -/
section
variable {ρ : Rho} {C C' : Addr} {ns : List Str} {ds : List D} {i : Nat} {f : Str} {all : Bool} {g fb : Rho → Fl} {gs : Rho → Out (List D)} {cs : List Addr} {hs : List Hd}
@[simp] theorem rd_raise : sRaise C ns gs ρ = (gs ρ).fl fun ds ρ1 => if ds.length = ns.length then .exc C ns.reverse ds.reverse ρ1 else .stuck := (rfl)
def tryK (r : Fl) (cs : List Addr) (hs : List Hd) : Fl := match r with
  | .exc C ns ds ρ' => if C ∈ cs then handle hs C ns ds ρ' else .stuck
  | r => r
@[simp] theorem rd_try : sTry fb cs hs ρ = tryK (fb ρ) cs hs := (rfl)
@[simp] theorem tryK_nx : tryK (.nx ρ) cs hs = .nx ρ := (rfl)
@[simp] theorem tryK_rt {r : R} : tryK (.rt r ρ) cs hs = .rt r ρ := (rfl)
@[simp] theorem tryK_exc : tryK (.exc C ns ds ρ) cs hs = if C ∈ cs then handle hs C ns ds ρ else .stuck := (rfl)
@[simp] theorem rd_hand0 : handle [] C ns ds ρ = .exc C ns ds ρ := (rfl)
def sufK : Fl → Fl
  | .nx ρ2 => .nx ρ2
  | _ => .stuck
@[simp] theorem sufK_nx : sufK (.nx ρ) = .nx ρ := (rfl)
def sufN (i : Nat) : Fl → Fl
  | .nx ρ2 => .nx (clean i ρ2)
  | _ => .stuck
@[simp] theorem sufN_nx : sufN i (.nx ρ) = .nx (clean i ρ) := (rfl)
@[simp] theorem rd_handP : handle (⟨C', all, none, g⟩ :: hs) C ns ds ρ = if C = C' ∨ all = true then sufK (g ρ) else handle hs C ns ds ρ := by
  show (if C = C' ∨ all = true then _ else _) = _
  by_cases c : C = C' ∨ all = true
  · rw [if_pos c, if_pos c]; show (match g ρ with | .nx ρ2 => _ | _ => _) = _; cases g ρ <;> rfl
  · rw [if_neg c, if_neg c]
@[simp] theorem rd_handN : handle (⟨C', false, some i, g⟩ :: hs) C ns ds ρ = if C = C' then (if ns = [] then .stuck else sufN i (g (ρ.set i (.exn ns ds)))) else handle hs C ns ds ρ := by
  show (if C = C' ∨ false = true then _ else _) = _
  by_cases c : C = C'
  · rw [if_pos (.inl c), if_pos c]
    show (if ns = [] ∨ false = true then _ else _) = _
    by_cases k : ns = []
    · rw [if_pos (.inl k), if_pos k]
    · rw [if_neg (by simp [k]), if_neg k]; show (match g _ with | .nx ρ2 => _ | _ => _) = _; cases g (ρ.set i (.exn ns ds)) <;> rfl
  · rw [if_neg (by simp [c]), if_neg c]
def exnS (f : Str) (ρ : Rho) : Option S → Out D
  | some (.exn ns ds) => lift (fldOf f ns ds) ρ
  | _ => .stuck
@[simp] theorem rd_exn : eExn i f ρ = exnS f ρ (ρ[i]?) := by
  unfold eExn exnS
  cases ρ[i]? with
  | none => rfl
  | some s => cases s <;> rfl
@[simp] theorem rd_exnS : exnS f ρ (some (.exn ns ds)) = lift (fldOf f ns ds) ρ := (rfl)
@[simp] theorem rd_fld1 {d : D} : fldOf f [f] [d] = some d := by unfold fldOf; simp
def noX : S → S
  | .exn _ _ => .no
  | s => s
@[simp] theorem noX_v {d : D} : noX (.val d) = .val d := rfl
@[simp] theorem noX_o {b : Option Nat} {o : O} : noX (.own b o) = .own b o := rfl
@[simp] theorem noX_n : noX .no = .no := rfl
@[simp] theorem noX_x : noX (.exn ns ds) = .no := rfl
@[simp] theorem rd_clean : clean i ρ = (ρ.map noX).set i .no := by
  unfold clean
  first
    | rfl
    | (congr 1; refine List.map_congr_left fun s _ => ?_; cases s <;> rfl)
end
/-- an error of C' is one of C (all: every one is), or not -/
def Exm (K : PySem.W.Frag) (C' C : Addr) (all : Bool) : Prop := PySem.W.exmOne K (.ref C') (.ref C) = some (decide (C' = C ∨ all = true))
theorem exs_nil {K : PySem.W.Frag} {C : Addr} {all : Bool} : ∀ C' ∈ ([] : List Addr), PySem.W.exmOne K (.ref C') (.ref C) = some (decide (C' = C ∨ all = true)) := fun _ h => by cases h
theorem exs_cons {K : PySem.W.Frag} {C c : Addr} {cs : List Addr} {all : Bool} (h : Exm K c C all) (r : ∀ C' ∈ cs, PySem.W.exmOne K (.ref C') (.ref C) = some (decide (C' = C ∨ all = true))) : ∀ C' ∈ c :: cs, PySem.W.exmOne K (.ref C') (.ref C) = some (decide (C' = C ∨ all = true)) := fun C' hm => by
  rcases List.mem_cons.mp hm with rfl | hm
  · exact h
  · exact r C' hm
theorem exm_same {K : PySem.W.Frag} {C : Addr} (h : PySem.W.exmOne K (.ref C) (.ref C) = some true) : Exm K C C false := by
  unfold Exm
  simp [h]
theorem exm_ne {K : PySem.W.Frag} {C C' : Addr} (h : PySem.W.exmOne K (.ref C') (.ref C) = some false) (h2 : PySem.W.exmOne K (.ref C) (.ref C) = some true) : C' ≠ C := fun e => by
  rw [e, h2] at h
  cases h
theorem exm_other {K : PySem.W.Frag} {C C' : Addr} (h : PySem.W.exmOne K (.ref C') (.ref C) = some false) (h2 : PySem.W.exmOne K (.ref C) (.ref C) = some true) : Exm K C' C false := by
  unfold Exm
  simp [h, exm_ne h h2]
theorem exm_all {K : PySem.W.Frag} {C C' : Addr} (h : PySem.W.exmOne K (.ref C') (.ref C) = some true) : Exm K C' C true := by
  unfold Exm
  simp [h]
end Lt

/-! # enumerate(zip(list, list)): the zip's own pair is kept by enumerate's -/
namespace Lt
open PySem PySem.Spec

theorem wp_alive {M : Model} {A : Around} {E : Value → Shared → Prop} {s : Shared} {a : Addr} {Q : Option Obj → Shared → Prop} (h : Q (s.heap.get? a) s) : wpAny M A (loadIfAlive a) Q E s := fun _ _ _ => h
abbrev ZipG (h : Heap) (z TI TO : Addr) (f0 f1 : Value) : Prop :=
  h.get? z = some { cls := .type "zip", dict := none, data := .fields #[f0, f1, .bool false, .ref TI, .ref TO], slots := #[] }
/-- how the zip stands between two turns -/
def ZSt (h : Heap) (z TI TO : Addr) : Prop := ∃ f0 f1, ZipG h z TI TO f0 f1 ∧ (f0 = .none ∨ ∃ T : Int, f0 = .int T 0)
section
variable {prog : Program} {w : World} {A : Around} {E : Value → Shared → Prop} {s : Shared}
theorem zip_free {z TI TO : Addr} {Q : Bool → Shared → Prop} (hz : ZSt s.heap z TI TO) (hQ : ∀ b h', ZSt h' z TI TO → Heap.SameBut z s.heap h' → Q b { s with heap := h' }) :
    wpAny (model prog w) A (Builtin.SmallTypes.ownedTupleIsFree (.ref z)) Q E s := by
  obtain ⟨f0, f1, hz, hf⟩ := hz
  have self : Heap.SameBut z s.heap s.heap := ⟨rfl, fun _ _ => rfl⟩
  unfold Builtin.SmallTypes.ownedTupleIsFree
  rcases hf with rfl | ⟨T, rfl⟩
  · exact wpAny_bind (wpAny_field hz rfl (x := .none) rfl (wpAny_pure (hQ true s.heap ⟨_, _, hz, .inl rfl⟩ self)))
  · refine wpAny_bind (wpAny_field hz rfl (x := .int T 0) rfl ?_)
    refine wpAny_bind (wp_alive ?_)
    cases s.heap.get? T.toNat with
    | none => exact wpAny_pure (hQ true s.heap ⟨_, _, hz, .inr ⟨T, rfl⟩⟩ self)
    | some o =>
      show wpAny _ _ (field (.ref z) 1 >>= _) _ _ _
      refine wpAny_bind (wpAny_field hz rfl (x := f1) rfl ?_)
      by_cases c : (f1 != .bool true) = true
      · rw [if_pos c]
        refine wpAny_bind (wpAny_setField_rec hz (by simp) fun h' hz' hs' => ?_)
        have hz2 : ZipG h' z TI TO (.int T 0) (.bool true) := hz'
        exact wpAny_pure (hQ false h' ⟨_, _, hz2, .inr ⟨T, rfl⟩⟩ hs')
      · rw [if_neg c]
        exact wpAny_pure (hQ false s.heap ⟨_, _, hz, .inr ⟨T, rfl⟩⟩ self)
/-- what a turn of the zip leaves -/
structure ZipOut (h h' : Heap) (z TI TO i1 i2 l1 l2 : Addr) (k : Nat) (x y : Value) (T : Addr) : Prop where
  st : ZSt h' z TI TO
  pI : IsPair h' TI (.ref i1) (.ref i2)
  pO : ∃ a b, IsPair h' TO a b
  j1 : h'.IsListIter i1 l1 (k + 1)
  j2 : h'.IsListIter i2 l2 (k + 1)
  pT : IsPair h' T x y
  new : T = h.objs.size
  size : h'.objs.size = h.objs.size + 1
  keep : ∀ c o, c ≠ z → c ≠ TO → c ≠ i1 → c ≠ i2 → h.get? c = some o → h'.get? c = some o
theorem zipG_item {z TI TO i1 i2 l1 l2 : Addr} {k : Nat} {xs ys : Array Value} {x y a b : Value} {Q : Value → Shared → Prop} (D : ZipApart z TI TO i1 i2 l1 l2)
    (hz : ZSt s.heap z TI TO) (hTI : IsPair s.heap TI (.ref i1) (.ref i2)) (hTO : IsPair s.heap TO a b)
    (h1 : s.heap.IsListIter i1 l1 k) (h2 : s.heap.IsListIter i2 l2 k) (hl1 : s.heap.IsList l1 xs) (hl2 : s.heap.IsList l2 ys) (hx : xs[k]? = some x) (hy : ys[k]? = some y)
    (hQ : ∀ h' T, ZipOut s.heap h' z TI TO i1 i2 l1 l2 k x y T → Q (.ref T) { s with heap := h' }) :
    wpAny (model prog w) A (Builtin.«zip.__next__» ⟨[.ref z], []⟩) (fun fin s' => ∃ v, fin = .done (.ret v) ∧ Q v s') E s := by
  obtain ⟨f0, f1, hz0, hf0⟩ := id hz
  show wpAny _ _ (field (.ref z) 2 >>= _) _ _ _
  refine wpAny_bind (wpAny_field hz0 rfl (x := .bool false) rfl ?_)
  show wpAny _ _ (field (.ref z) 3 >>= _) _ _ _
  refine wpAny_bind (wpAny_field hz0 rfl (x := .ref TI) rfl ?_)
  refine wpAny_bind (wpAny_seqItems hTI rfl ?_)
  show wpAny _ _ (Builtin.SmallTypes.ownedTupleIsFree (.ref z) >>= _) _ _ _
  refine wpAny_bind (zip_free hz fun free h0 hz' s0 => ?_)
  obtain ⟨g0, g1, hzg, hg⟩ := hz'
  have hTO0 : IsPair h0 TO a b := s0.extBut _ _ D.TOz hTO
  have hTI0 : IsPair h0 TI (.ref i1) (.ref i2) := s0.extBut _ _ D.TIz hTI
  have h1' := h1.extBut s0.extBut D.i1z
  have h2' := h2.extBut s0.extBut D.i2z
  have hl1' := hl1.extBut s0.extBut D.l1z
  have hl2' := hl2.extBut s0.extBut D.l2z
  have sz0 : h0.objs.size = s.heap.objs.size := s0.1
  cases free with
  | true =>
    simp only [if_true]
    refine wpAny_bind (wpAny_rule ?_)
    refine wpAny_bind (wpAny_field hzg rfl (x := .ref TO) rfl ?_)
    refine wpAny_bind (wpAny_setField_rec hzg (by simp) fun h₁ hz₁ hs₁ => ?_)
    replace hz₁ : ZipG h₁ z TI TO .ellipsis g1 := hz₁
    replace hs₁ : Heap.SameBut z h0 h₁ := hs₁
    refine wpAny_bind ?_
    simp only [List.zipIdx_cons, List.zipIdx_nil, List.forIn_cons, List.forIn_nil]
    refine wpAny_bind (wpAny_bind (wpAny_onRaise ?_))
    show wpAny _ _ (Builtin.SmallTypes.nextOf (.ref i1) >>= _) _ _ _
    refine wpAny_bind (wpAny_nextOf_list_item (h1'.extBut hs₁.extBut D.i1z) (hl1'.extBut hs₁.extBut D.l1z) hx fun h₂ h1₂ hs₂ => wpAny_pure ?_)
    have hTO₂ : IsPair h₂ TO a b := hs₂.extBut _ _ D.TOi1 (hs₁.extBut _ _ D.TOz hTO0)
    refine wpAny_bind (wpAny_seqItems hTO₂ rfl ?_)
    refine wpAny_bind (wpAny_updateSeq_pair hTO₂ fun h₃ hTO₃ hs₃ => ?_)
    replace hTO₃ : IsPair h₃ TO x b := hTO₃
    refine wpAny_bind (wpAny_letGo (wpAny_pure ?_))
    refine wpAny_bind (wpAny_bind (wpAny_onRaise ?_))
    show wpAny _ _ (Builtin.SmallTypes.nextOf (.ref i2) >>= _) _ _ _
    refine wpAny_bind (wpAny_nextOf_list_item (((h2'.extBut hs₁.extBut D.i2z).extBut hs₂.extBut D.i12.symm).extBut hs₃.extBut D.TOi2.symm)
      (((hl2'.extBut hs₁.extBut D.l2z).extBut hs₂.extBut D.l2i1).extBut hs₃.extBut D.l2TO) hy fun h₄ h2₄ hs₄ => wpAny_pure ?_)
    have hTO₄ : IsPair h₄ TO x b := hs₄.extBut _ _ D.TOi2 hTO₃
    refine wpAny_bind (wpAny_seqItems hTO₄ rfl ?_)
    refine wpAny_bind (wpAny_updateSeq_pair hTO₄ fun h₅ hTO₅ hs₅ => ?_)
    replace hTO₅ : IsPair h₅ TO x y := hTO₅
    refine wpAny_bind (wpAny_letGo (wpAny_pure (wpAny_pure ?_)))
    refine wpAny_bind (wpAny_seqItems hTO₅ rfl ?_)
    refine wpAny_bind (wpAny_newTuple ?_)
    have hsz : h₅.objs.size = s.heap.objs.size := by rw [hs₅.1, hs₄.1, hs₃.1, hs₂.1, hs₁.1, sz0]
    have hz₅ : ZipG h₅ z TI TO .ellipsis g1 := hs₅.extBut _ _ D.TOz.symm (hs₄.extBut _ _ D.i2z.symm (hs₃.extBut _ _ D.TOz.symm (hs₂.extBut _ _ D.i1z.symm hz₁)))
    have hk₅ : ∀ c o, c ≠ z → c ≠ TO → c ≠ i1 → c ≠ i2 → s.heap.get? c = some o → h₅.get? c = some o := fun c o c1 c2 c3 c4 e =>
      hs₅.extBut _ _ c2 (hs₄.extBut _ _ c4 (hs₃.extBut _ _ c2 (hs₂.extBut _ _ c3 (hs₁.extBut _ _ c1 (s0.extBut _ _ c1 e)))))
    have h1₅ : h₅.IsListIter i1 l1 (k + 1) := ((h1₂.extBut hs₃.extBut D.TOi1.symm).extBut hs₄.extBut D.i12).extBut hs₅.extBut D.TOi1.symm
    have h2₅ : h₅.IsListIter i2 l2 (k + 1) := h2₄.extBut hs₅.extBut D.TOi2.symm
    have hzlt : z < h₅.objs.size := Heap.lt_size hz₅
    show wpAny _ _ (Builtin.SmallTypes.ownedTupleHandOut (.ref z) (.ref h₅.objs.size) >>= _) _ _ _
    refine wpAny_bind ?_
    unfold Builtin.SmallTypes.ownedTupleHandOut
    have hz₆ : ZipG (h₅.push { cls := .type "tuple", data := .seq #[x, y] }) z TI TO .ellipsis g1 := Heap.get?_push_of_some _ hz₅
    refine wpAny_bind (wpAny_setField_rec hz₆ (by simp) fun h₇ hz₇ hs₇ => ?_)
    replace hz₇ : ZipG h₇ z TI TO (rawInt h₅.objs.size) g1 := hz₇
    refine wpAny_setField_rec hz₇ (by simp) fun h₈ hz₈ hs₈ => ?_
    replace hz₈ : ZipG h₈ z TI TO (rawInt h₅.objs.size) (.bool false) := hz₈
    have up : ∀ c o, c ≠ z → h₅.get? c = some o → h₈.get? c = some o := fun c o c1 e => hs₈.extBut _ _ c1 (hs₇.extBut _ _ c1 (Heap.get?_push_of_some _ e))
    have hT₈ : IsPair h₈ h₅.objs.size x y := hs₈.extBut _ _ (Nat.ne_of_gt hzlt) (hs₇.extBut _ _ (Nat.ne_of_gt hzlt) (Heap.get?_push_size _ rfl))
    have hz8 : h₈.objs.size = h₅.objs.size + 1 := by rw [hs₈.1, hs₇.1, Heap.size_push]
    refine wpAny_pure ⟨_, rfl, ?_⟩
    exact hQ h₈ h₅.objs.size ⟨⟨_, _, hz₈, .inr ⟨_, rfl⟩⟩, up _ _ D.TIz (hk₅ _ _ D.TIz D.TITO D.TIi1 D.TIi2 hTI), ⟨_, _, up _ _ D.TOz hTO₅⟩, h1₅.at fun o e => up _ o D.i1z e, h2₅.at fun o e => up _ o D.i2z e, hT₈, hsz, by rw [hz8, hsz], fun c o c1 c2 c3 c4 e => up c o c1 (hk₅ c o c1 c2 c3 c4 e)⟩
  | false =>
    simp only [Bool.false_eq_true, if_false]
    simp only [List.forIn_toArray, List.forIn_cons, List.forIn_nil]
    refine wpAny_bind (wpAny_bind (wpAny_bind (wpAny_holding ?_)))
    show wpAny _ _ (Builtin.SmallTypes.nextOf (.ref i1) >>= _) _ _ _
    refine wpAny_bind (wpAny_nextOf_list_item h1' hl1' hx fun h₂ h1₂ hs₂ => wpAny_pure ?_)
    replace hs₂ : Heap.SameBut i1 h0 h₂ := hs₂
    refine wpAny_pure ?_
    refine wpAny_bind (wpAny_bind (wpAny_holding ?_))
    show wpAny _ _ (Builtin.SmallTypes.nextOf (.ref i2) >>= _) _ _ _
    refine wpAny_bind (wpAny_nextOf_list_item (h2'.extBut hs₂.extBut D.i12.symm) (hl2'.extBut hs₂.extBut D.l2i1) hy fun h₄ h2₄ hs₄ => wpAny_pure ?_)
    replace hs₄ : Heap.SameBut i2 h₂ h₄ := hs₄
    refine wpAny_pure ?_
    refine wpAny_pure ?_
    refine wpAny_bind (wpAny_newTuple ?_ (by show 2 ≤ sizeLine; decide))
    have hsz : h₄.objs.size = s.heap.objs.size := by rw [hs₄.1, hs₂.1, sz0]
    have up : ∀ c o, c ≠ z → c ≠ i1 → c ≠ i2 → s.heap.get? c = some o → (h₄.push { cls := .type "tuple", data := .seq #[x, y] }).get? c = some o := fun c o c1 c3 c4 e =>
      Heap.get?_push_of_some _ (hs₄.extBut _ _ c4 (hs₂.extBut _ _ c3 (s0.extBut _ _ c1 e)))
    refine wpAny_pure ⟨_, rfl, hQ (h₄.push { cls := .type "tuple", data := .seq #[x, y] }) h₄.objs.size ⟨⟨g0, g1, ?_, hg⟩, up _ _ D.TIz D.TIi1 D.TIi2 hTI, ⟨a, b, up _ _ D.TOz D.TOi1 D.TOi2 hTO⟩, ?_, ?_, Heap.get?_push_size _ rfl, hsz, ?_, fun c o c1 _ c3 c4 e => up c o c1 c3 c4 e⟩⟩
    · exact Heap.get?_push_of_some _ (hs₄.extBut _ _ D.i2z.symm (hs₂.extBut _ _ D.i1z.symm hzg))
    · exact (h1₂.extBut hs₄.extBut D.i12).at fun o e => Heap.get?_push_of_some _ e
    · exact h2₄.at fun o e => Heap.get?_push_of_some _ e
    · rw [Heap.size_push, hsz]
theorem zipG_end {z TI TO i1 i2 l1 l2 : Addr} {k : Nat} {xs ys : Array Value} {a b : Value} {Q : Fin → Shared → Prop} (hh : A.handled = none) (D : ZipApart z TI TO i1 i2 l1 l2)
    (hz : ZSt s.heap z TI TO) (hTI : IsPair s.heap TI (.ref i1) (.ref i2)) (hTO : IsPair s.heap TO a b)
    (h1 : s.heap.IsListIter i1 l1 k) (h2 : s.heap.IsListIter i2 l2 k) (hl1 : s.heap.IsList l1 xs) (hl2 : s.heap.IsList l2 ys) (hend : xs[k]? = none ∨ ys[k]? = none)
    (hE : ∀ h' e, (∀ c o, c ≠ z → c ≠ TO → c ≠ i1 → c ≠ i2 → s.heap.get? c = some o → h'.get? c = some o) → (∃ o, h'.get? e = some o ∧ o.cls = .type "StopIteration") → E (.ref e) { s with heap := h' }) :
    wpAny (model prog w) A (Builtin.«zip.__next__» ⟨[.ref z], []⟩) Q E s := by
  obtain ⟨f0, f1, hz0, hf0⟩ := id hz
  show wpAny _ _ (field (.ref z) 2 >>= _) _ _ _
  refine wpAny_bind (wpAny_field hz0 rfl (x := .bool false) rfl ?_)
  show wpAny _ _ (field (.ref z) 3 >>= _) _ _ _
  refine wpAny_bind (wpAny_field hz0 rfl (x := .ref TI) rfl ?_)
  refine wpAny_bind (wpAny_seqItems hTI rfl ?_)
  show wpAny _ _ (Builtin.SmallTypes.ownedTupleIsFree (.ref z) >>= _) _ _ _
  refine wpAny_bind (zip_free hz fun free h0 hz' s0 => ?_)
  obtain ⟨g0, g1, hzg, hg⟩ := hz'
  have hTO0 : IsPair h0 TO a b := s0.extBut _ _ D.TOz hTO
  have h1' := h1.extBut s0.extBut D.i1z
  have h2' := h2.extBut s0.extBut D.i2z
  have hl1' := hl1.extBut s0.extBut D.l1z
  have hl2' := hl2.extBut s0.extBut D.l2z
  cases free with
  | true =>
    simp only [if_true]
    refine wpAny_bind (wpAny_rule ?_)
    refine wpAny_bind (wpAny_field hzg rfl (x := .ref TO) rfl ?_)
    refine wpAny_bind (wpAny_setField_rec hzg (by simp) fun h₁ hz₁ hs₁ => ?_)
    replace hz₁ : ZipG h₁ z TI TO .ellipsis g1 := hz₁
    replace hs₁ : Heap.SameBut z h0 h₁ := hs₁
    refine wpAny_bind ?_
    simp only [List.zipIdx_cons, List.zipIdx_nil, List.forIn_cons, List.forIn_nil]
    refine wpAny_bind (wpAny_bind (wpAny_onRaise ?_))
    show wpAny _ _ (Builtin.SmallTypes.nextOf (.ref i1) >>= _) _ _ _
    cases hx : xs[k]? with
    | none =>
      refine wpAny_bind (wpAny_nextOf_list_end hh (h1'.extBut hs₁.extBut D.i1z) (hl1'.extBut hs₁.extBut D.l1z) hx fun h₂ e hs₂ he => ?_)
      obtain ⟨oe, hoe, hce⟩ := he
      have hz₂ : ZipG h₂ z TI TO .ellipsis g1 := hs₂ _ _ D.i1z.symm hz₁
      have hez : e ≠ z := fun q => by subst q; rw [hz₂] at hoe; cases hoe; simp at hce
      exact wpAny_setField_rec hz₂ (by simp) fun h₃ _ hs₃ => hE h₃ e (fun c o c1 _ c3 _ q => hs₃.extBut _ _ c1 (hs₂ _ _ c3 (hs₁.extBut _ _ c1 (s0.extBut _ _ c1 q)))) ⟨oe, hs₃.extBut _ _ hez hoe, hce⟩
    | some x =>
      have hy : ys[k]? = none := by rcases hend with h | h; rw [hx] at h; cases h; exact h
      refine wpAny_bind (wpAny_nextOf_list_item (h1'.extBut hs₁.extBut D.i1z) (hl1'.extBut hs₁.extBut D.l1z) hx fun h₂ h1₂ hs₂ => wpAny_pure ?_)
      have hTO₂ : IsPair h₂ TO a b := hs₂.extBut _ _ D.TOi1 (hs₁.extBut _ _ D.TOz hTO0)
      refine wpAny_bind (wpAny_seqItems hTO₂ rfl ?_)
      refine wpAny_bind (wpAny_updateSeq_pair hTO₂ fun h₃ hTO₃ hs₃ => ?_)
      refine wpAny_bind (wpAny_letGo (wpAny_pure ?_))
      refine wpAny_bind (wpAny_bind (wpAny_onRaise ?_))
      show wpAny _ _ (Builtin.SmallTypes.nextOf (.ref i2) >>= _) _ _ _
      refine wpAny_bind (wpAny_nextOf_list_end hh (((h2'.extBut hs₁.extBut D.i2z).extBut hs₂.extBut D.i12.symm).extBut hs₃.extBut D.TOi2.symm)
        (((hl2'.extBut hs₁.extBut D.l2z).extBut hs₂.extBut D.l2i1).extBut hs₃.extBut D.l2TO) hy fun h₄ e hs₄ he => ?_)
      obtain ⟨oe, hoe, hce⟩ := he
      have hz₄ : ZipG h₄ z TI TO .ellipsis g1 := hs₄ _ _ D.i2z.symm (hs₃.extBut _ _ D.TOz.symm (hs₂.extBut _ _ D.i1z.symm hz₁))
      have hez : e ≠ z := fun q => by subst q; rw [hz₄] at hoe; cases hoe; simp at hce
      exact wpAny_setField_rec hz₄ (by simp) fun h₅ _ hs₅ => hE h₅ e (fun c o c1 c2 c3 c4 q => hs₅.extBut _ _ c1 (hs₄ _ _ c4 (hs₃.extBut _ _ c2 (hs₂.extBut _ _ c3 (hs₁.extBut _ _ c1 (s0.extBut _ _ c1 q)))))) ⟨oe, hs₅.extBut _ _ hez hoe, hce⟩
  | false =>
    simp only [Bool.false_eq_true, if_false]
    simp only [List.forIn_toArray, List.forIn_cons, List.forIn_nil]
    refine wpAny_bind (wpAny_bind (wpAny_bind (wpAny_holding ?_)))
    show wpAny _ _ (Builtin.SmallTypes.nextOf (.ref i1) >>= _) _ _ _
    cases hx : xs[k]? with
    | none =>
      exact wpAny_bind (wpAny_nextOf_list_end hh h1' hl1' hx fun h₂ e hs₂ he => hE h₂ e (fun c o c1 _ c3 _ q => hs₂ _ _ c3 (s0.extBut _ _ c1 q)) he)
    | some x =>
      have hy : ys[k]? = none := by rcases hend with h | h; rw [hx] at h; cases h; exact h
      refine wpAny_bind (wpAny_nextOf_list_item h1' hl1' hx fun h₂ h1₂ hs₂ => wpAny_pure ?_)
      refine wpAny_pure ?_
      refine wpAny_bind (wpAny_bind (wpAny_holding ?_))
      show wpAny _ _ (Builtin.SmallTypes.nextOf (.ref i2) >>= _) _ _ _
      exact wpAny_bind (wpAny_nextOf_list_end hh (h2'.extBut hs₂.extBut D.i12.symm) (hl2'.extBut hs₂.extBut D.l2i1) hy fun h₄ e hs₄ he => hE h₄ e (fun c o c1 _ c3 c4 q => hs₄ _ _ c4 (hs₂.extBut _ _ c3 (s0.extBut _ _ c1 q))) he)
theorem nextOf_zip {z TI TO i1 i2 l1 l2 : Addr} {k : Nat} {xs ys : Array Value} {x y a b : Value} {Q : Value → Shared → Prop} (D : ZipApart z TI TO i1 i2 l1 l2)
    (hz : ZSt s.heap z TI TO) (hTI : IsPair s.heap TI (.ref i1) (.ref i2)) (hTO : IsPair s.heap TO a b)
    (h1 : s.heap.IsListIter i1 l1 k) (h2 : s.heap.IsListIter i2 l2 k) (hl1 : s.heap.IsList l1 xs) (hl2 : s.heap.IsList l2 ys) (hx : xs[k]? = some x) (hy : ys[k]? = some y)
    (hQ : ∀ h' T, ZipOut s.heap h' z TI TO i1 i2 l1 l2 k x y T → Q (.ref T) { s with heap := h' }) : wpAny (model prog w) A (Builtin.SmallTypes.nextOf (.ref z)) Q E s := by
  obtain ⟨f0, f1, hz0, _⟩ := id hz
  have hT : s.TypeIs (.ref z) "zip" := ⟨_, hz0, rfl⟩
  unfold Builtin.SmallTypes.nextOf
  exact wpAny_bind (wpAny_callSpecial?_slot (name := Str.ofString "__next__") hT F.slot_zip_next (wpAny_call_entry F.slot_zip_next hT F.entry_zip_next
    (zipG_item D hz hTI hTO h1 h2 hl1 hl2 hx hy fun h' T o => wpAny_pure (hQ h' T o)) (F.args_zip_next_1 _)))
theorem nextOf_zip_end {z TI TO i1 i2 l1 l2 : Addr} {k : Nat} {xs ys : Array Value} {a b : Value} {Q : Value → Shared → Prop} (hh : A.handled = none) (D : ZipApart z TI TO i1 i2 l1 l2)
    (hz : ZSt s.heap z TI TO) (hTI : IsPair s.heap TI (.ref i1) (.ref i2)) (hTO : IsPair s.heap TO a b)
    (h1 : s.heap.IsListIter i1 l1 k) (h2 : s.heap.IsListIter i2 l2 k) (hl1 : s.heap.IsList l1 xs) (hl2 : s.heap.IsList l2 ys) (hend : xs[k]? = none ∨ ys[k]? = none)
    (hE : ∀ h' e, (∀ c o, c ≠ z → c ≠ TO → c ≠ i1 → c ≠ i2 → s.heap.get? c = some o → h'.get? c = some o) → (∃ o, h'.get? e = some o ∧ o.cls = .type "StopIteration") → E (.ref e) { s with heap := h' }) :
    wpAny (model prog w) A (Builtin.SmallTypes.nextOf (.ref z)) Q E s := by
  obtain ⟨f0, f1, hz0, _⟩ := id hz
  have hT : s.TypeIs (.ref z) "zip" := ⟨_, hz0, rfl⟩
  unfold Builtin.SmallTypes.nextOf
  exact wpAny_bind (wpAny_callSpecial?_slot (name := Str.ofString "__next__") hT F.slot_zip_next (wpAny_call_entry F.slot_zip_next hT F.entry_zip_next
    (zipG_end hh D hz hTI hTO h1 h2 hl1 hl2 hend hE) (F.args_zip_next_1 _)))
/-- enumerate's own object stands aside -/
structure EzApart (e z TI TO i1 i2 l1 l2 : Addr) : Prop where
  D : ZipApart z TI TO i1 i2 l1 l2
  z : e ≠ z
  tI : e ≠ TI
  tO : e ≠ TO
  j1 : e ≠ i1
  j2 : e ≠ i2
  m1 : e ≠ l1
  m2 : e ≠ l2
/-- what a turn leaves: T2 the zip's pair, T enumerate's -/
structure EzOut (h h' : Heap) (e z TI TO i1 i2 l1 l2 : Addr) (k : Nat) (x y : Value) (tk : Tok) : Prop where
  en : IsEnumOut h' e z ((k : Int) + 1) (.ref h.objs.size) (h.objs.size + 1)
  size : h'.objs.size = h.objs.size + 2
  st : ZSt h' z TI TO
  pI : IsPair h' TI (.ref i1) (.ref i2)
  pO : ∃ a b, IsPair h' TO a b
  j1 : h'.IsListIter i1 l1 (k + 1)
  j2 : h'.IsListIter i2 l2 (k + 1)
  pT : IsPair h' h.objs.size x y
  pE : IsPair h' (h.objs.size + 1) (.int k tk) (.ref h.objs.size)
  keep : ∀ c o, c ≠ e → c ≠ z → c ≠ TO → c ≠ i1 → c ≠ i2 → h.get? c = some o → h'.get? c = some o
theorem ez_item {e z TI TO i1 i2 l1 l2 : Addr} {k : Nat} {xs ys : Array Value} {x y a b old : Value} {Q : Value → Shared → Prop} (X : EzApart e z TI TO i1 i2 l1 l2)
    (he : IsEnum s.heap e z (k : Int) old) (hz : ZSt s.heap z TI TO) (hTI : IsPair s.heap TI (.ref i1) (.ref i2)) (hTO : IsPair s.heap TO a b)
    (h1 : s.heap.IsListIter i1 l1 k) (h2 : s.heap.IsListIter i2 l2 k) (hl1 : s.heap.IsList l1 xs) (hl2 : s.heap.IsList l2 ys) (hx : xs[k]? = some x) (hy : ys[k]? = some y)
    (hQ : ∀ h' tk, EzOut s.heap h' e z TI TO i1 i2 l1 l2 k x y tk → Q (.ref (s.heap.objs.size + 1)) { s with heap := h', toks := tk + 1 }) :
    wpAny (model prog w) A (Builtin.«enumerate.__next__» ⟨[.ref e], []⟩) (fun fin s' => ∃ v, fin = .done (.ret v) ∧ Q v s') E s := by
  obtain ⟨hp, g, d, tk, os⟩ := s
  have el : e < hp.objs.size := Heap.lt_size he
  show wpAny _ _ (field (.ref e) 2 >>= _) _ _ _
  refine wpAny_bind (wpAny_field he rfl (x := .ref z) rfl ?_)
  refine wpAny_bind (nextOf_zip X.D hz hTI hTO h1 h2 hl1 hl2 hx hy fun h₁ T o => ?_)
  obtain ⟨oz, oI, oO, o1, o2, oT, on, osz, ok⟩ := o
  replace on : T = hp.objs.size := on
  subst on
  replace ok : ∀ c o, c ≠ z → c ≠ TO → c ≠ i1 → c ≠ i2 → hp.get? c = some o → h₁.get? c = some o := ok
  replace osz : h₁.objs.size = hp.objs.size + 1 := osz
  have he₁ : IsEnum h₁ e z k old := ok _ _ X.z X.tO X.j1 X.j2 he
  show wpAny _ _ (field (.ref e) 3 >>= _) _ _ ⟨h₁, g, d, tk, os⟩
  refine wpAny_bind (wpAny_field he₁ rfl (x := rawInt k) rfl ?_)
  show wpAny _ _ (field (.ref e) 4 >>= _) _ _ ⟨h₁, g, d, tk, os⟩
  refine wpAny_bind (wpAny_field he₁ rfl (x := .none) rfl ?_)
  show wpAny _ _ (mkInt k >>= _) _ _ ⟨h₁, g, d, tk, os⟩
  refine wpAny_bind (wpAny_mkInt ?_)
  show wpAny _ _ (setField (.ref e) 3 (rawInt ((k : Int) + 1)) >>= _) _ _ ⟨h₁, g, d, tk + 1, os⟩
  refine wpAny_bind (wpAny_setField_rec he₁ (by simp) fun h₂ he₂ hs₂ => ?_)
  replace hs₂ : Heap.SameBut e h₁ h₂ := hs₂
  replace he₂ : IsEnum h₂ e z ((k : Int) + 1) old := he₂
  show wpAny _ _ (setField (.ref e) 4 .none >>= _) _ _ ⟨h₂, g, d, tk + 1, os⟩
  refine wpAny_bind (wpAny_setField_rec he₂ (by simp) fun h₃ he₃ hs₃ => ?_)
  replace hs₃ : Heap.SameBut e h₂ h₃ := hs₃
  replace he₃ : IsEnum h₃ e z ((k : Int) + 1) old := he₃
  show wpAny _ _ (newTuple [.int k tk, .ref hp.objs.size] >>= _) _ _ ⟨h₃, g, d, tk + 1, os⟩
  refine wpAny_bind (wpAny_newTuple ?_)
  have he₄ : IsEnum (h₃.push { cls := .type "tuple", data := .seq #[.int k tk, .ref hp.objs.size] }) e z ((k : Int) + 1) old := Heap.get?_push_of_some _ he₃
  generalize hh₄ : h₃.push { cls := .type "tuple", data := .seq #[.int k tk, .ref hp.objs.size] } = h₄ at he₄
  have hsz : h₃.objs.size = hp.objs.size + 1 := by rw [hs₃.1, hs₂.1, osz]
  have ht₄ : IsPair h₄ (hp.objs.size + 1) (.int k tk) (.ref hp.objs.size) := by rw [← hh₄, ← hsz]; exact Heap.get?_push_size _ rfl
  have up4 : ∀ c o, c ≠ e → h₁.get? c = some o → h₄.get? c = some o := fun c o ce q => by
    rw [← hh₄]; exact Heap.get?_push_of_some _ (hs₃.extBut _ _ ce (hs₂.extBut _ _ ce q))
  show wpAny _ _ (Builtin.SmallTypes.ownedTupleIsFree (.ref e) >>= _) _ _ ⟨h₄, g, d, tk + 1, os⟩
  rw [hsz]
  refine wpAny_bind ?_
  unfold Builtin.SmallTypes.ownedTupleIsFree
  refine wpAny_bind (wpAny_field he₄ rfl (x := .none) rfl (wpAny_pure ?_))
  simp only [if_true]
  refine wpAny_bind (wpAny_rule ?_)
  refine wpAny_bind (wpAny_field he₄ rfl (x := old) rfl ?_)
  refine wpAny_bind (wpAny_setField_rec he₄ (by simp) fun h₅ he₅ hs₅ => ?_)
  replace hs₅ : Heap.SameBut e h₄ h₅ := hs₅
  replace he₅ : IsEnum h₅ e z ((k : Int) + 1) (.ref hp.objs.size) := he₅
  show wpAny _ _ (Builtin.SmallTypes.ownedTupleHandOut (.ref e) (.ref (hp.objs.size + 1)) >>= _) _ _ ⟨h₅, g, d, tk + 1, os⟩
  refine wpAny_bind ?_
  unfold Builtin.SmallTypes.ownedTupleHandOut
  refine wpAny_bind (wpAny_setField_rec he₅ (by simp) fun h₆ he₆ hs₆ => ?_)
  replace hs₆ : Heap.SameBut e h₅ h₆ := hs₆
  replace he₆ : IsEnumOut h₆ e z ((k : Int) + 1) (.ref hp.objs.size) (hp.objs.size + 1) := he₆
  refine wpAny_setField_rec he₆ (by simp) fun h₇ he₇ hs₇ => ?_
  replace hs₇ : Heap.SameBut e h₆ h₇ := hs₇
  replace he₇ : IsEnumOut h₇ e z ((k : Int) + 1) (.ref hp.objs.size) (hp.objs.size + 1) := he₇
  have up7 : ∀ c o, c ≠ e → h₄.get? c = some o → h₇.get? c = some o := fun c o ce q => hs₇.extBut _ _ ce (hs₆.extBut _ _ ce (hs₅.extBut _ _ ce q))
  have up : ∀ c o, c ≠ e → h₁.get? c = some o → h₇.get? c = some o := fun c o ce q => up7 c o ce (up4 c o ce q)
  obtain ⟨a2, b2, oO⟩ := oO
  obtain ⟨f0, f1, hzo, hf⟩ := oz
  refine wpAny_bind (wpAny_letGo (wpAny_pure ⟨_, rfl, hQ h₇ tk ⟨he₇, by rw [hs₇.1, hs₆.1, hs₅.1, ← hh₄, Heap.size_push, hsz], ⟨f0, f1, up _ _ X.z.symm hzo, hf⟩, up _ _ X.tI.symm oI, ⟨a2, b2, up _ _ X.tO.symm oO⟩, o1.at fun o q => up _ o X.j1.symm q, o2.at fun o q => up _ o X.j2.symm q, up _ _ (Nat.ne_of_gt el) oT, up7 _ _ (Nat.ne_of_gt (Nat.lt_succ_of_lt el)) ht₄, fun c o ce c1 c2 c3 c4 q => up c o ce (ok c o c1 c2 c3 c4 q)⟩⟩))
end
open L2
/-- the lists at a and b as they stand, the items in new pairs, these with their numbers in new pairs -/
def Iez (K : PySem.W.Frag) (a b : Addr) : It :=
  ⟨fun i H => ∃ (xs ys : List V) (x y : V), SqL K H a xs ∧ SqL K H b ys ∧ xs[i]? = some x ∧ ys[i]? = some y,
    fun i H v H' => ∃ T2 T x y, v = .ref T ∧ H T2 = none ∧ H T = none ∧ T ≠ T2 ∧ H' = upd (upd H T2 (.tup [x, y])) T (.tup [.int (i : Nat), .ref T2]) ∧ (∀ xs, SqL K H a xs → xs[i]? = some x) ∧ ∀ ys, SqL K H b ys → ys[i]? = some y,
    fun i H => ∃ xs ys : List V, SqL K H a xs ∧ SqL K H b ys ∧ (xs.length ≤ i ∨ ys.length ≤ i)⟩
/-- an object that stands in the heap already is tracked -/
theorem two_new {X : Cx} {pins : List (Addr × Obj)} {σ : St} {H : Hp} {s : Shared} {h' : Heap} {t' : Nat} {ch : List Addr} {T2 T : Addr} {o2 o : HO} (I : Inv X pins σ H s) (k : ∀ b u, b ∉ ch → s.heap.get? b = some u → h'.get? b = some u) (hf : ∀ b ∈ ch, FpOk X pins H b)
    (z2 : s.heap.objs.size ≤ T2) (z : s.heap.objs.size ≤ T) (ne : T ≠ T2) (n2 : ∀ G : Heap, (∀ b, b ≠ T → G.get? b = h'.get? b) → ObjOk X.prog X.w (upd H T2 o2) G T2 o2) (n1 : ObjOk X.prog X.w (upd (upd H T2 o2) T o) h' T o) :
    Inv X pins σ (upd (upd H T2 o2) T o) { s with heap := h', toks := t' } := by
  obtain ⟨G, gy, gn⟩ := restrict h' fun b => decide (b ≠ T)
  have gk : ∀ b, b ≠ T → G.get? b = h'.get? b := fun b n => gy b (decide_eq_true n)
  have gT : G.get? T = none := gn T (by simp)
  have I1 : Inv X pins σ (upd H T2 o2) { s with heap := G, toks := t' } := I.turnedNew (ch := ch) (fun b u hb e => (gk b (Nat.ne_of_lt (Nat.lt_of_lt_of_le (Heap.lt_size e) z))).trans (k b u hb e)) hf z2 (n2 G gk)
  have hT : upd H T2 o2 T = none := by rw [upd_ne ne]; exact I.hok.fresh z
  have up : ∀ b u, G.get? b = some u → h'.get? b = some u := fun b u e => by
    have nb : b ≠ T := fun q => by rw [q, gT] at e; cases e
    rw [← gk b nb]; exact e
  have U : Un X.fs [] (upd H T2 o2) (upd (upd H T2 o2) T o) G h' := {
    keep := fun b u e _ _ _ => up b u e
    slot := fun b u e _ _ _ => ⟨u.slots, up b u e⟩
    free := fun b u e n _ => by
      have nb : b ≠ T := fun q => by rw [q, gT] at e; cases e
      rw [upd_ne nb]; exact n
    there := fun b u e _ => ⟨u, up b u e⟩
    tups := fun b xs e => by rw [upd_ne (ne_of_none e hT)]; exact e
    frzs := fun b u v e => by rw [upd_ne (ne_of_none e hT)]; exact e
    tbls := fun b ps e => ⟨#[], by rw [upd_ne (ne_of_none e hT), e]; simp⟩ }
  exact I1.un (t' := t') U fun b u e => by
    by_cases c : b = T
    · subst c
      rw [upd_same] at e
      cases e
      exact n1
    · rw [upd_ne c] at e
      exact (I1.hok b u e).stay (fun c' v _ q => up c' v q) (fun c' hc => by rw [upd_ne (ne_of_none hc hT)]; exact hc) fun c' xs hc => by rw [upd_ne (ne_of_none hc hT)]; exact hc
theorem turn_ez {P : Program} {w : World} {K : PySem.W.Frag} {elts : List Expr} {kk : Nat} {tpos : Pos} {a b e z TI TO i1 i2 : Addr} (X0 : EzApart e z TI TO i1 i2 a b) :
    Turn P w K (.Tuple elts kk tpos) (Iez K a b) [e, z, TI, TO, i1, i2] e (fun i h => (∃ old, IsEnum h e z ((i : Nat) : Int) old) ∧ ZSt h z TI TO ∧ IsPair h TI (.ref i1) (.ref i2) ∧ (∃ x y, IsPair h TO x y) ∧ h.IsListIter i1 a i ∧ h.IsListIter i2 b i) where
  mem := by simp
  obj := fun i h st c hc => by
    obtain ⟨⟨old, he⟩, ⟨f0, f1, hz, _⟩, hTI, ⟨x, y, hTO⟩, ⟨o1, e1, _, d1⟩, ⟨o2, e2, _, d2⟩⟩ := st
    have e' : c = e ∨ c = z ∨ c = TI ∨ c = TO ∨ c = i1 ∨ c = i2 := by simpa using hc
    rcases e' with q | q | q | q | q | q
    · rw [q]; exact ⟨_, he, fun v q => nomatch q⟩
    · rw [q]; exact ⟨_, hz, fun v q => nomatch q⟩
    · rw [q]; exact ⟨_, hTI, fun v q => nomatch q⟩
    · rw [q]; exact ⟨_, hTO, fun v q => nomatch q⟩
    · rw [q]; exact ⟨o1, e1, fun v q => by rw [d1] at q; cases q⟩
    · rw [q]; exact ⟨o2, e2, fun v q => by rw [d2] at q; cases q⟩
  keep := fun i h h' st k => by
    obtain ⟨⟨old, he⟩, ⟨f0, f1, hz, hf⟩, hTI, ⟨x, y, hTO⟩, h1, h2⟩ := st
    exact ⟨⟨old, k e (by simp) _ he⟩, ⟨f0, f1, k z (by simp) _ hz, hf⟩, k TI (by simp) _ hTI, ⟨x, y, k TO (by simp) _ hTO⟩, h1.at fun o q => k i1 (by simp) o q, h2.at fun o q => k i2 (by simp) o q⟩
  item := by
    intro X hP hw hK hc i pins s σ H E I hf st hg
    subst hP hw hK
    obtain ⟨⟨old, he⟩, hz, hTI, ⟨x0, y0, hTO⟩, h1, h2⟩ := st
    obtain ⟨xs, ys, x, y, hqx, hqy, hx, hy⟩ := hg
    obtain ⟨its, rv, p, _⟩ := I.list hqx
    obtain ⟨its2, rv2, p2, _⟩ := I.list hqy
    obtain ⟨u, hu, ru⟩ := rv.get hx
    obtain ⟨u2, hu2, ru2⟩ := rv2.get hy
    have hT : s.TypeIs (.ref e) "enumerate" := ⟨_, he, rfl⟩
    have hel : e < s.heap.objs.size := Heap.lt_size he
    unfold pyNext
    refine wpAny_bind (wpAny_attempt (wpAny_callSpecial?_slot (name := Str.ofString "__next__") hT F.slot_enumerate_next (wpAny_call_entry F.slot_enumerate_next hT F.entry_enumerate_next
      (ez_item X0 he hz hTI hTO h1 h2 p.isList p2.isList (x := u) (y := u2) (by simpa using hu) (by simpa using hu2) fun h' tk o => wpAny_pure ?_) (F.args_enumerate_next_1 _))))
    obtain ⟨oe, osz, oz, oI, ⟨a2, b2, oO⟩, o1, o2, oT, oP, ok⟩ := o
    refine ⟨_, rfl, wpAny_letOwnedTupleGo_enum (s := { s with heap := h', toks := tk + 1 }) oe fun h'' he'' sb => ?_⟩
    obtain ⟨f0, f1, hzo, hf0⟩ := oz
    have up : ∀ c o, c ≠ e → h'.get? c = some o → h''.get? c = some o := fun c o ce q => (sb.2 c ce).trans q
    have gT2 : h''.get? s.heap.objs.size = some { cls := .type "tuple", data := .seq #[u, u2] } := up _ _ (Nat.ne_of_gt hel) oT
    have gT : h''.get? (s.heap.objs.size + 1) = some { cls := .type "tuple", data := .seq #[.int i tk, .ref s.heap.objs.size] } := up _ _ (Nat.ne_of_gt (Nat.lt_succ_of_lt hel)) oP
    have z2 : 2 ≤ sizeLine := by rw [sizeLine_eq]; decide
    have n2 : ∀ G : Heap, (∀ b, b ≠ s.heap.objs.size + 1 → G.get? b = h''.get? b) → ObjOk X.prog X.w (upd H s.heap.objs.size (.tup [x, y])) G s.heap.objs.size (.tup [x, y]) := fun G hG =>
      ⟨z2, [u, u2], .cons ru (.cons ru2 .nil), ⟨_, (hG _ (Nat.ne_of_lt (Nat.lt_succ_self _))).trans gT2, rfl, _, rfl⟩⟩
    have n1 : ObjOk X.prog X.w (upd (upd H s.heap.objs.size (.tup [x, y])) (s.heap.objs.size + 1) (.tup [.int (i : Nat), .ref s.heap.objs.size])) h'' (s.heap.objs.size + 1) (.tup [.int (i : Nat), .ref s.heap.objs.size]) :=
      ⟨z2, [.int i tk, .ref s.heap.objs.size], .cons ⟨_, rfl⟩ (.cons rfl .nil), ⟨_, gT, rfl, _, rfl⟩⟩
    have kp : ∀ c o, c ∉ [e, z, TI, TO, i1, i2] → s.heap.get? c = some o → h''.get? c = some o := fun c o hcm q =>
      up c o (fun q' => hcm (by simp [q'])) (ok c o (fun q' => hcm (by simp [q'])) (fun q' => hcm (by simp [q'])) (fun q' => hcm (by simp [q'])) (fun q' => hcm (by simp [q'])) (fun q' => hcm (by simp [q'])) q)
    have I1 := two_new (t' := tk + 1) (ch := [e, z, TI, TO, i1, i2]) I kp hf (Nat.le_refl _) (Nat.le_succ _) (Nat.ne_of_gt (Nat.lt_succ_self _)) n2 n1
    refine ⟨.ref (s.heap.objs.size + 1), _, I1, rfl, ⟨s.heap.objs.size, s.heap.objs.size + 1, x, y, rfl, I.hok.fresh (Nat.le_refl _), I.hok.fresh (Nat.le_succ _), Nat.ne_of_gt (Nat.lt_succ_self _), rfl, fun l hl => by rw [I.list_inj hl hqx]; exact hx, fun l hl => by rw [I.list_inj hl hqy]; exact hy⟩,
      ⟨⟨.ref s.heap.objs.size, ?_⟩, ⟨f0, f1, up _ _ X0.z.symm hzo, hf0⟩, up _ _ X0.tI.symm oI, ⟨a2, b2, up _ _ X0.tO.symm oO⟩, o1.at fun o q => up _ o X0.j1.symm q, o2.at fun o q => up _ o X0.j2.symm q⟩, fun c hcm => ?_⟩
    · have e1 : ((i + 1 : Nat) : Int) = (i : Int) + 1 := by omega
      rw [e1]; exact he''
    · have hlt : c < s.heap.objs.size := by
        have e' : c = e ∨ c = z ∨ c = TI ∨ c = TO ∨ c = i1 ∨ c = i2 := by simpa using hcm
        rcases e' with q | q | q | q | q | q
        · rw [q]; exact hel
        · rw [q]; obtain ⟨_, _, q1, _⟩ := hz; exact Heap.lt_size q1
        · rw [q]; exact Heap.lt_size hTI
        · rw [q]; exact Heap.lt_size hTO
        · rw [q]; obtain ⟨_, e1, _⟩ := h1; exact Heap.lt_size e1
        · rw [q]; obtain ⟨_, e2, _⟩ := h2; exact Heap.lt_size e2
      rw [upd_ne (Nat.ne_of_lt (Nat.lt_succ_of_lt hlt)), upd_ne (Nat.ne_of_lt hlt)]
      exact (hf c hcm).1
  done := by
    intro X hP hw hK hc i pins s σ H E I hf st hg
    subst hP hw hK
    obtain ⟨⟨old, he⟩, hz, hTI, ⟨x0, y0, hTO⟩, h1, h2⟩ := st
    obtain ⟨xs, ys, hqx, hqy, hend⟩ := hg
    obtain ⟨its, rv, p, _⟩ := I.list hqx
    obtain ⟨its2, rv2, p2, _⟩ := I.list hqy
    have l1 := rv.length
    have l2 := rv2.length
    have hee : its.toArray[i]? = none ∨ its2.toArray[i]? = none := by
      rcases hend with q | q
      · exact .inl (by simp; omega)
      · exact .inr (by simp; omega)
    have hT : s.TypeIs (.ref e) "enumerate" := ⟨_, he, rfl⟩
    unfold pyNext
    refine wpAny_bind (wpAny_attempt (wpAny_callSpecial?_slot (name := Str.ofString "__next__") hT F.slot_enumerate_next (wpAny_call_entry F.slot_enumerate_next hT F.entry_enumerate_next ?_ (F.args_enumerate_next_1 _))))
    show wpAny _ _ (field (.ref e) 2 >>= _) _ _ _
    refine wpAny_bind (wpAny_field he rfl (x := .ref z) rfl ?_)
    refine wpAny_bind (nextOf_zip_end (I.ok.hd hc) X0.D hz hTI hTO h1 h2 p.isList p2.isList hee fun h' ex hk hx' => ?_)
    obtain ⟨o, ho, hcl⟩ := hx'
    refine wpAny_bind (wpAny_isInstance (T := "StopIteration") (b := true) ⟨o, ho, hcl⟩ isSubtype_stop ?_)
    exact wpAny_pure ⟨rfl, I.turnedL (t' := s.toks) (ch := [e, z, TI, TO, i1, i2]) (fun c o hb q =>
      hk c o (fun q' => hb (by simp [q'])) (fun q' => hb (by simp [q'])) (fun q' => hb (by simp [q'])) (fun q' => hb (by simp [q'])) q) hf⟩
  self := fun A i s Q E st h => let ⟨⟨_, he⟩, _⟩ := st; wpAny_pyIter_enum he h
end Lt

/-! # enumerate(zip(list, list)): how it is made, the rule -/
namespace Lt
open PySem PySem.Spec
theorem meets_enum_zip (z TI TO : Addr) (f0 : Value) :
    Meets (Builtin.«enumerate.__new__» ⟨[.type "enumerate", .ref z], []⟩) (fun _ R s => IsZip s.heap z TI TO f0 ∧
      R (.ok (.ret (.ref s.heap.objs.size))) { s with heap := s.heap.push { cls := .type "enumerate", data := .fields #[.none, .bool false, .ref z, rawInt 0, .none, .none] } }) :=
  .of_wp fun prog w A R s h => by
    obtain ⟨hp, g, d, tk, os⟩ := s
    obtain ⟨hz, h⟩ := h
    have hsub := sub_enumerate
    have hZ : IsZip (Shared.heap ⟨hp, g, d, tk, os⟩) z TI TO f0 := hz
    wp_walk
    refine wpAny_stack_any fun st => wpAny_pure ?_
    split
    · rename_i c _ _ _ _ _
      cases (c == Value.type "enumerate")
      · wp_walk using wpAny_pyIter_zip hZ
        exact ⟨_, rfl, h⟩
      · wp_walk using wpAny_pyIter_zip hZ
        exact ⟨_, rfl, h⟩
    · wp_walk using wpAny_pyIter_zip hZ
      exact ⟨_, rfl, h⟩
theorem call_enum_zip {prog : Program} {w : World} {A : Around} {E : Value → Shared → Prop} {s : Shared} {z TI TO : Addr} {f0 : Value} {Q : Value → Shared → Prop} (hz : IsZip s.heap z TI TO f0)
    (h : ∀ h', IsEnum h' s.heap.objs.size z 0 .none → h'.objs.size = s.heap.objs.size + 1 → (∀ b o, s.heap.get? b = some o → h'.get? b = some o) → Q (.ref s.heap.objs.size) { s with heap := h' }) :
    wpAny (model prog w) A (call (.type "enumerate") [.ref z]) Q E s := by
  refine callType_new F.called_enumerate (by decide) (F.typeCall_enumerate_1 _) (F.newCall_enumerate_1 _) (fun obj => F.args_object_init_2 obj _) F.entry_enumerate_new (meets_enum_zip z TI TO f0) ⟨hz, ?_⟩
  have he : IsEnum (s.heap.push { cls := .type "enumerate", data := .fields #[.none, .bool false, .ref z, rawInt 0, .none, .none] }) s.heap.objs.size z 0 .none := Heap.get?_push_size _ rfl
  exact ⟨⟨_, he, rfl⟩, h _ he (Heap.size_push ..) fun b o q => Heap.get?_push_of_some _ q⟩
open L2
def iEz (K : PySem.W.Frag) (ta : TA) : TI := fun σ H R => ta σ H fun vs H1 => ∃ a b xs ys, vs = [.ref a, .ref b] ∧ SqL K H1 a xs ∧ SqL K H1 b ys ∧ R (Iez K a b) H1
theorem pi_ez {X : Cx} {e e2 : Expr} {ta : TA} {p pos p2 pos2 tpos : Pos} {elts : List Expr} {kk : Nat} (hg : Gl X "zip") (hm : X.mg "zip" = none) (hg2 : Gl X "enumerate") (hm2 : X.mg "enumerate" = none) (ha : PA X [e, e2] ta)
    (hs : starEach [e, e2] X.env = (false, eval e X.env) :: starEach [e2] X.env := by rfl) (hpl : (backTo pos2 (starEach [e2] X.env)).any (·.1) = false := by rfl)
    (hs2 : starEach [.Call (.Name "zip" p2) [e, e2] [] pos2] X.env = (false, eval (.Call (.Name "zip" p2) [e, e2] [] pos2) X.env) :: starEach [] X.env := by rfl) :
    PI X (.Tuple elts kk tpos) (.Call (.Name "enumerate" p) [.Call (.Name "zip" p2) [e, e2] [] pos2] [] pos) (iEz X.K ta) := by
  refine ⟨fun pins s σ H R I h => ?_⟩
  refine PyProof.Rows.Call_ (ld_blt I hg2 hm2 PyProof.Rows.boot_enumerate (PyProof.Rows.callWith_type1 ?_ hs2 rfl))
  rw [hs2]
  show wpAny _ _ (spliced ((false, eval (.Call (.Name "zip" p2) [e, e2] [] pos2) X.env) :: backTo pos (starEach [] X.env))) _ _ s
  refine PySem.Calls.spliced_cons (PyProof.Rows.Call_ (ld_blt I hg hm PyProof.Rows.boot_zip (PyProof.Rows.callWith_type1 (thn (ha.run pos2 pins s σ H _ I h) fun us s1 ⟨vs, H1, I1, r1, q1⟩ => ?_) hs hpl)))
  obtain ⟨a, b, xs, ys, ex, hqx, hqy, q⟩ := q1
  subst ex
  cases r1 with
  | cons r rr =>
    cases rr with
    | cons r' rr =>
      cases rr
      cases r
      cases r'
      obtain ⟨its, rv, l1, _⟩ := I1.list hqx
      obtain ⟨its2, rv2, l2, _⟩ := I1.list hqy
      have la : a < s1.heap.objs.size := l1.lt
      have lb : b < s1.heap.objs.size := l2.lt
      refine call_zip_2 l1.isList l2.isList fun h' hz hTI hTO h1 h2 hsz hk => PySem.Calls.spliced_nil ?_
      refine call_enum_zip (s := { s1 with heap := h' }) hz fun h'' he hsz2 hk2 => wpAny_pyIter_enum he ?_
      replace hk2 : ∀ c o, h'.get? c = some o → h''.get? c = some o := hk2
      have I2 : Inv X pins σ H1 { s1 with heap := h'' } := I1.kept (t' := s1.toks) fun c o q => hk2 c o (hk c o q)
      have ee : h'.objs.size = s1.heap.objs.size + 5 := hsz
      have D := PySem.W.ktu_apart s1.heap.objs.size a b la lb
      have X0 : EzApart h'.objs.size (s1.heap.objs.size + 4) (s1.heap.objs.size + 2) (s1.heap.objs.size + 3) s1.heap.objs.size (s1.heap.objs.size + 1) a b := by
        rw [ee]
        exact ⟨D, Nat.ne_of_gt (by omega), Nat.ne_of_gt (by omega), Nat.ne_of_gt (by omega), Nat.ne_of_gt (by omega), Nat.ne_of_gt (by omega), Nat.ne_of_gt (Nat.lt_of_lt_of_le la (Nat.le_add_right _ _)), Nat.ne_of_gt (Nat.lt_of_lt_of_le lb (Nat.le_add_right _ _))⟩
      refine ⟨h'.objs.size, [h'.objs.size, s1.heap.objs.size + 4, s1.heap.objs.size + 2, s1.heap.objs.size + 3, s1.heap.objs.size, s1.heap.objs.size + 1], _, _, H1, rfl, I2, turn_ez X0, ⟨⟨.none, he⟩, ⟨_, _, hk2 _ _ hz, .inl rfl⟩, hk2 _ _ hTI, ⟨_, _, hk2 _ _ hTO⟩, h1.at fun o q => hk2 _ o q, h2.at fun o q => hk2 _ o q⟩, fun c hcm => ?_, q⟩
      have hle : s1.heap.objs.size ≤ c := by
        have e' : c = h'.objs.size ∨ c = s1.heap.objs.size + 4 ∨ c = s1.heap.objs.size + 2 ∨ c = s1.heap.objs.size + 3 ∨ c = s1.heap.objs.size ∨ c = s1.heap.objs.size + 1 := by simpa using hcm
        rcases e' with q | q | q | q | q | q
        · rw [q, ee]; exact Nat.le_add_right _ _
        · rw [q]; exact Nat.le_add_right _ _
        · rw [q]; exact Nat.le_add_right _ _
        · rw [q]; exact Nat.le_add_right _ _
        · rw [q]; exact Nat.le_refl _
        · rw [q]; exact Nat.le_add_right _ _
      exact I1.fpOk hle (I1.hok.fresh hle)
/-! ### over data -/
def enD (i : Nat) : List D → List D
  | [] => []
  | d :: ds => .tup [.int (i : Nat), d] :: enD (i + 1) ds
theorem enD_get : ∀ {ds : List D} {i j : Nat} {d : D}, (enD i ds)[j]? = some d → ∃ d', ds[j]? = some d' ∧ d = .tup [.int ((i + j : Nat) : Int), d']
  | [], _, _, _, h => by simp [enD] at h
  | d0 :: ds, i, 0, d, h => by simp [enD] at h; exact ⟨d0, rfl, by rw [← h]; rfl⟩
  | d0 :: ds, i, j + 1, d, h => by
    simp [enD] at h
    obtain ⟨d', h1, h2⟩ := enD_get h
    exact ⟨d', by simpa using h1, by rw [h2]; congr 3; omega⟩
theorem enD_len : ∀ (ds : List D) (i : Nat), (enD i ds).length = ds.length
  | [], _ => rfl
  | _ :: ds, i => by simp [enD, enD_len ds]
def iEzD (gs : Rho → Out (List D)) : Rho → Out (List D) := fun ρ => (gs ρ).bind fun ds ρ1 => lift (match ds with | [.lst xs, .lst ys] => some (enD 0 (xs.zip ys |>.map fun p => .tup [p.1, p.2])) | _ => none) ρ1
theorem itok_ez {K : PySem.W.Frag} {F : Hp} {a b : Addr} {ds es : List D} {xs ys : List V} (h1 : F a = some (.lst xs)) (h2 : Reps K F ds xs) (h3 : F b = some (.lst ys)) (h4 : Reps K F es ys) : ItOk K (Iez K a b) F (enD 0 (ds.zip es |>.map fun p => .tup [p.1, p.2])) := by
  intro i F' H s1 s2
  have q1 : SqL K H a xs := SqL.of (s2 _ _ (s1 _ _ h1))
  have q2 : SqL K H b ys := SqL.of (s2 _ _ (s1 _ _ h3))
  refine ⟨fun d hd => ?_, fun hl => ⟨xs, ys, q1, q2, ?_⟩⟩
  · obtain ⟨d', hd', rfl⟩ := enD_get hd
    rw [List.getElem?_map] at hd'
    obtain ⟨⟨d1, d2⟩, e1, e2⟩ := Option.map_eq_some_iff.mp hd'
    subst e2
    have e3 := List.getElem?_zip_eq_some.mp e1
    obtain ⟨x, hx, rx⟩ := h2.at e3.1
    obtain ⟨y, hy, ry⟩ := h4.at e3.2
    refine ⟨⟨xs, ys, x, y, q1, q2, hx, hy⟩, fun v H' hv => .inr (.inr ?_)⟩
    obtain ⟨T2, T, x', y', e4, n2, n, ne, e5, z1, z2⟩ := hv
    have w1 := z1 xs q1
    have w2 := z2 ys q2
    rw [hx] at w1
    rw [hy] at w2
    cases w1
    cases w2
    subst e4
    subst e5
    have nf2 : F' T2 = none := by
      cases z : F' T2 with
      | none => rfl
      | some u => rw [s2 _ _ z] at n2; cases n2
    have nf : F' T = none := by
      cases z : F' T with
      | none => rfl
      | some u => rw [s2 _ _ z] at n; cases n
    have nT : upd H T2 (.tup [x, y]) T = none := by rw [upd_ne ne]; exact n
    have p1 := pair_rep s2 n2 (Rep.mono s1 _ _ rx) (Rep.mono s1 _ _ ry)
    refine ⟨upd (upd F' T2 (.tup [x, y])) T (.tup [.int (i : Nat), .ref T2]), fun c u q => ?_, fun c u q => ?_, fun c u q => ?_, fun c q => ?_, ?_⟩
    · rw [upd_ne (ne_of_none q nf), upd_ne (ne_of_none q nf2)]; exact q
    · by_cases c1 : c = T
      · subst c1; rw [upd_same] at q ⊢; exact q
      · rw [upd_ne c1] at q ⊢
        by_cases c2 : c = T2
        · subst c2; rw [upd_same] at q ⊢; exact q
        · rw [upd_ne c2] at q ⊢; exact s2 c u q
    · rw [upd_ne (ne_of_none q n), upd_ne (ne_of_none q n2)]; exact q
    · by_cases c1 : c = T
      · subst c1; exact .inr n
      · rw [upd_ne c1] at q
        by_cases c2 : c = T2
        · subst c2; exact .inr n2
        · rw [upd_ne c2] at q; exact .inl q
    · have st : Same (upd F' T2 (.tup [x, y])) (upd (upd F' T2 (.tup [x, y])) T (.tup [.int (i : Nat), .ref T2])) := fun c u q => by
        rw [upd_ne (fun e => by rw [e, upd_ne ne, nf] at q; cases q)]; exact q
      exact ⟨T, _, rfl, SqT.of upd_same, .int (i : Nat), _, rfl, by show V.int _ = V.int _; rw [Nat.zero_add], .ref T2, [], rfl, Rep.mono st _ _ p1, rfl⟩
  · rw [enD_len, List.length_map] at hl
    rw [h2.len, h4.len]
    exact zip_none hl
theorem i_ez {X : Cx} {m : Fm} {W : WX} {e e2 : Expr} {gs : Rho → Out (List D)} {p pos p2 pos2 tpos : Pos} {elts : List Expr} {kk : Nat} (hm : X.mg "zip" = none) (hm2 : X.mg "enumerate" = none) (ha : DL X m W [e, e2] gs) (hg : Gl X "zip" := by rfl) (hg2 : Gl X "enumerate" := by rfl)
    (hs : starEach [e, e2] X.env = (false, eval e X.env) :: starEach [e2] X.env := by rfl) (hpl : (backTo pos2 (starEach [e2] X.env)).any (·.1) = false := by rfl)
    (hs2 : starEach [.Call (.Name "zip" p2) [e, e2] [] pos2] X.env = (false, eval (.Call (.Name "zip" p2) [e, e2] [] pos2) X.env) :: starEach [] X.env := by rfl) :
    DI X m W (.Tuple elts kk tpos) (.Call (.Name "enumerate" p) [.Call (.Name "zip" p2) [e, e2] [] pos2] [] pos) (iEzD gs) :=
  PI.imp (pi_ez hg hm hg2 hm2 ha hs hpl hs2) fun σ H Rr h => by
    obtain ⟨F, ρ, r, a⟩ := h
    refine ⟨F, ρ, r, (Aft.bind a).imp fun ds ρ1 F1 H1 r1 s1 a1 vs rvs => ?_⟩
    obtain ⟨zs, e, q⟩ := Aft.lift a1
    split at e <;> cases e
    obtain ⟨v, w, rfl, h1, h2⟩ := rvs.two'
    obtain ⟨p, vs, rfl, g1, g2⟩ := h1
    obtain ⟨p', vs', rfl, g3, g4⟩ := h2
    exact ⟨p, p', vs, vs', rfl, SqL.of (r1.sub _ _ g1), SqL.of (r1.sub _ _ g3), q F1 H1 r1 (Same.refl _) _ (itok_ez g1 g2 g3 g4)⟩
end Lt

/-! # Own error classes, by the written part -/
namespace Lt
open PySem PySem.Spec L2
theorem exm_mk {K : PySem.W.Frag} {C C' : Addr} {b : Bool} (h1 : PySem.W.subIn K (.ref C) (.type "BaseException") = some true) (h2 : PySem.W.isClsIn K C = true) (h3 : PySem.W.typeIn K (.ref C) = some (.type "type")) (h4 : PySem.W.subIn K (.ref C') (.ref C) = some b) :
    PySem.W.exmOne K (.ref C') (.ref C) = some b := by
  have e1 : (PySem.W.subIn K (.ref C) (.type "BaseException") == some true) = true := by rw [h1] <;> rfl
  have e2 : ((PySem.W.clsIn K C).isSome && PySem.W.typeIn K (.ref C) == some (.type "type")) = true := by
    have h2' : (PySem.W.clsIn K C).isSome = true := h2
    rw [h2', h3] <;> rfl
  show (if (PySem.W.subIn K (.ref C) (.type "BaseException") == some true) = true then (if ((PySem.W.clsIn K C).isSome && PySem.W.typeIn K (.ref C) == some (.type "type")) = true then PySem.W.subIn K (.ref C') (.ref C) else none) else none) = some b
  rw [if_pos e1, if_pos e2]
  exact h4
theorem refs1 (c : Addr) : PySem.HandSPX.refsVE [.ref c, .type "ValueError", .type "Exception", .type "BaseException", .type "object"] = true := by
  show PySem.HandSPX.refsVE [.type "ValueError", .type "Exception", .type "BaseException", .type "object"] = true
  decide +kernel
section
variable {P : Program} {w : World} {K : PySem.W.Frag} {mg : Str → Option Value} {base : Heap} {T : Addr}
variable {qual f g : Str} {st : Stmt} {fA : Addr} {fd : FuncData}
/-- TicketError.__init__(self, "..") -/
def tEb (K : PySem.W.Frag) (x : Str) : TS := tDrop (tVeI K (tCons (tVar 0) (tCons (tC (.str x)) tNil)))
theorem ok_e0 {x : Str} (Fd : Fun K "__init__" qual st fA fd) (S : FnScope ["self"] ["self"] (defScope st))
    (hb : ∀ (cdv : Value) (A : Around) (outer : List Env) (s : Shared) (H : Hp) (E : XK), PSs (cxOf (L2.CX P w) P w K mg base ["self"] qual (defScope st) fA cdv A outer s H E) (defBody st) (tEb K x)) :
    FnOk P w K mg base (L2.CX P w) 1 fA fd ["self"] (spE0 K) := by
  refine Fd.okX S (fun vs H Q E h => ?_) fun cdv A outer s H vs Q E hr h => ⟨_, hb cdv A outer s H E, ?_⟩
  · obtain ⟨a, C, rfl, _⟩ := h
    rfl
  · obtain ⟨a, C, rfl, O, ha, q⟩ := h
    exact ⟨_, rfl, a, C, _, rfl, by simp, O, ha, q⟩
theorem ok_e1 {x : Str} {N : List Str} (hN : N = (("self" : Str) :: f :: [])) (Fd : Fun K "__init__" qual st fA fd) (S : FnScope N N (defScope st))
    (hb : ∀ (cdv : Value) (A : Around) (outer : List Env) (s : Shared) (H : Hp) (E : XK), PSs (cxOf (L2.CX P w) P w K mg base N qual (defScope st) fA cdv A outer s H E) (defBody st) (tSeq (tEb K x) (tOst K f (tVar 0) (tVar 1)))) :
    FnOk P w K mg base (L2.CX P w) 1 fA fd N (spE1 K f) := by
  subst hN
  refine Fd.okX S (fun vs H Q E h => ?_) fun cdv A outer s H vs Q E hr h => ⟨_, hb cdv A outer s H E, ?_⟩
  · obtain ⟨a, C, y, rfl, _⟩ := h
    rfl
  · obtain ⟨a, C, y, rfl, O, hn, ha, q⟩ := h
    exact ⟨_, rfl, a, C, _, rfl, by simp, O, ha, _, rfl, _, rfl, a, C, rfl, O, hn, .inl ⟨ha, q⟩⟩
theorem ok_e2 {x : Str} {N : List Str} (hN : N = (("self" : Str) :: f :: g :: [])) (hfg : f ≠ g) (Fd : Fun K "__init__" qual st fA fd) (S : FnScope N N (defScope st))
    (hb : ∀ (cdv : Value) (A : Around) (outer : List Env) (s : Shared) (H : Hp) (E : XK), PSs (cxOf (L2.CX P w) P w K mg base N qual (defScope st) fA cdv A outer s H E) (defBody st) (tSeq (tEb K x) (tSeq (tOst K f (tVar 0) (tVar 1)) (tOst K g (tVar 0) (tVar 2))))) :
    FnOk P w K mg base (L2.CX P w) 1 fA fd N (spE2 K f g) := by
  subst hN
  refine Fd.okX S (fun vs H Q E h => ?_) fun cdv A outer s H vs Q E hr h => ⟨_, hb cdv A outer s H E, ?_⟩
  · obtain ⟨a, C, y, z, rfl, _⟩ := h
    rfl
  · obtain ⟨a, C, y, z, rfl, O, ⟨hn, hn2⟩, ha, q⟩ := h
    refine ⟨_, rfl, a, C, _, rfl, by simp, O, ha, _, rfl, _, rfl, a, C, rfl, O, hn, .inl ⟨ha, fun d nd ne => ⟨_, rfl, _, rfl, a, C, rfl, O, hn2, .inr ⟨d, _, upd_same, ?_, by simp, q d nd ne⟩⟩⟩⟩
    rw [upd_ne ne, upd_same]
end
end Lt

/-! # dict(d), a copy -/
namespace Lt
open PySem PySem.Spec L2
def oDcp (i : Nat) : Rho → Out O := fun ρ => match dkAt i ρ with
  | some kvs => .ok (.dk kvs) ρ
  | none => .stuck
section
variable {X : Cx} {m : Fm} {W : WX}
theorem o_dcp {i : Nat} {x : Str} {p px pos : Pos} (hg : Gl X "dict") (hm : X.mg "dict" = none) (hN : X.N[i]? = some x := by rfl) (hv : Vis X.env.scope x := by first | exact Or.inl rfl | exact Or.inr (Or.inl rfl) | exact Or.inr (Or.inr rfl)) (hd : (x == ("__debug__" : Str)) = false := by decide)
    (hcd : (x == ("__classdict__" : Str)) = false := by decide) (hs : starEach [Expr.Name x px] X.env = (false, eval (.Name x px) X.env) :: starEach [] X.env := by rfl) (hpl : (backTo pos (starEach [] X.env)).any (·.1) = false := by rfl) :
    DEO X m W (.Call (.Name "dict" p) [.Name x px] [] pos) (oDcp i) := PE.imp (pe_callTy call_dictD hg hm (by decide +kernel) (pa_cons (pv i hN hv hd hcd) pa_nil hs) (by decide) (by decide) hs hpl) fun σ H Q h => by
  obtain ⟨F, ρ, r, a⟩ := h
  unfold oDcp at a
  cases e1 : dkAt i ρ with
  | none => rw [e1] at a; exact a.elim
  | some kvs =>
    rw [e1] at a
    obtain ⟨c, xs, q1, q2, q3, _⟩ := r.dkOwn e1
    refine ⟨_, q1, c, xs, rfl, .of q2, fun p np => ?_⟩
    obtain ⟨r2, a2⟩ := r.aside_new np (.dK xs)
    exact a F _ r2 (Same.refl _) p _ a2 ⟨xs, rfl, q3⟩
end
def dcpS : Option (List (Key × D)) → Rho → Out O
  | some kvs, ρ => .ok (.dk kvs) ρ
  | none, _ => .stuck
@[simp] theorem rd_dcp {i : Nat} {ρ : Rho} : oDcp i ρ = dcpS (dkAt i ρ) ρ := by
  unfold oDcp dcpS
  cases dkAt i ρ <;> rfl
@[simp] theorem rd_dcpS {kvs : List (Key × D)} {ρ : Rho} : dcpS (some kvs) ρ = .ok (.dk kvs) ρ := (rfl)
end Lt

/-! # enumerate(list); an expression that is never reached -/
namespace Lt
open PySem PySem.Spec L2
def iEnD (gs : Rho → Out (List D)) : Rho → Out (List D) := fun ρ => (gs ρ).bind fun ds ρ1 => lift (match ds with | [.lst xs] => some (enD 0 xs) | _ => none) ρ1
theorem itok_en {K : PySem.W.Frag} {F : Hp} {a : Addr} {ds : List D} {xs : List V} (h1 : F a = some (.lst xs)) (h2 : Reps K F ds xs) : ItOk K (Ite K a) F (enD 0 ds) := by
  intro i F' H s1 s2
  have q1 : SqL K H a xs := SqL.of (s2 _ _ (s1 _ _ h1))
  refine ⟨fun d hd => ?_, fun hl => ⟨xs, q1, ?_⟩⟩
  · obtain ⟨d', hd', rfl⟩ := enD_get hd
    obtain ⟨x, hx, rx⟩ := h2.at hd'
    refine ⟨⟨xs, x, q1, hx⟩, fun v H' hv => .inr (.inr ?_)⟩
    obtain ⟨T, x', e4, n, e5, z1⟩ := hv
    have w1 := z1 xs q1
    rw [hx] at w1
    cases w1
    subst e4
    subst e5
    have nf : F' T = none := by
      cases z : F' T with
      | none => rfl
      | some u => rw [s2 _ _ z] at n; cases n
    have p1 := Rep.mono s1 _ _ rx
    refine ⟨upd F' T (.tup [.int (i : Nat), x]), fun c u q => ?_, fun c u q => ?_, fun c u q => ?_, fun c q => ?_, ?_⟩
    · rw [upd_ne (ne_of_none q nf)]; exact q
    · by_cases c1 : c = T
      · subst c1; rw [upd_same] at q ⊢; exact q
      · rw [upd_ne c1] at q ⊢; exact s2 c u q
    · rw [upd_ne (ne_of_none q n)]; exact q
    · by_cases c1 : c = T
      · subst c1; exact .inr n
      · rw [upd_ne c1] at q; exact .inl q
    · have st : Same F' (upd F' T (.tup [.int (i : Nat), x])) := fun c u q => by
        rw [upd_ne (ne_of_none q nf)]; exact q
      exact ⟨T, _, rfl, SqT.of upd_same, .int (i : Nat), _, rfl, by show V.int _ = V.int _; rw [Nat.zero_add], x, [], rfl, Rep.mono st _ _ p1, rfl⟩
  · rw [enD_len] at hl
    rw [h2.len]
    exact hl
theorem i_en {X : Cx} {m : Fm} {W : WX} {e : Expr} {gs : Rho → Out (List D)} {p pos tpos : Pos} {elts : List Expr} {kk : Nat} (hm : X.mg "enumerate" = none) (ha : DL X m W [e] gs) (hg : Gl X "enumerate" := by rfl)
    (hs : starEach [e] X.env = [(false, eval e X.env)] := by rfl) :
    DI X m W (.Tuple elts kk tpos) (.Call (.Name "enumerate" p) [e] [] pos) (iEnD gs) :=
  PI.imp (pi_enum hg hm ha hs) fun σ H Rr h => by
    obtain ⟨F, ρ, r, a⟩ := h
    refine ⟨F, ρ, r, (Aft.bind a).imp fun ds ρ1 F1 H1 r1 s1 a1 vs rvs => ?_⟩
    obtain ⟨zs, e, q⟩ := Aft.lift a1
    split at e <;> cases e
    obtain ⟨v, rfl, h1⟩ := rvs.one'
    obtain ⟨p, vs, rfl, g1, g2⟩ := h1
    exact ⟨p, vs, rfl, SqL.of (r1.sub _ _ g1), q F1 H1 r1 (Same.refl _) _ (itok_en g1 g2)⟩
/-- not reached -/
def eNever : Rho → Out D := fun _ => .stuck
theorem d_never {X : Cx} {m : Fm} {W : WX} {e : Expr} : DE X m W e eNever := ⟨fun pins s σ H Q I h => by
  obtain ⟨F, ρ, r, a⟩ := h
  exact a.elim⟩
end Lt

/-! # [f, g, h][k](..) -/
namespace Lt
open PySem PySem.Spec L2
open PyProof.Rows
def ePick3 (f0 f1 f2 : PFs) (i : Nat) (gs : Rho → Out (List D)) : Rho → Out D := fun ρ => match ρ[i]? with
  | some (.val (.int k)) => if k = 0 then eFn f0 gs ρ else if k = 1 then eFn f1 gs ρ else if k = 2 then eFn f2 gs ρ else .stuck
  | _ => .stuck
section
variable {X : Cx} {m : Fm} {W : WX}
theorem pe_globF {x : Str} {f : Addr} {p : Pos} (hg : Gl X x) (hm : X.mg x = some (.ref f)) (hdb : (x == ("__debug__" : Str)) = false := by decide) : PE X (.Name x p) (tC (.ref f)) :=
  ⟨fun pins s σ H Q I h => ld_glob I hg hm ⟨.ref f, H, I, rfl, h⟩ hdb⟩
theorem arm_pick {l k : Expr} {sp pos : Pos} {args : List Expr} {env : Env} : eval (.Call (.Subscript l k sp) args [] pos) env = (do
    callWith pos (← eval (.Subscript l k sp) env) [] (backTo pos (starEach args env)) (backToKw pos (keywordEach [] env))) := rfl
theorem d_pick3 {f0 f1 f2 : PFs} {x0 x1 x2 y : Str} {ka kb kc j i : Nat} {e : Expr} {es : List Expr} {gs : Rho → Out (List D)} {p0 p1 p2 pl py ps pos : Pos}
    (c0 : Cal X.prog X.w X.K X.mg X.base x0 ka (pureF f0)) (c1 : Cal X.prog X.w X.K X.mg X.base x1 kb (pureF f1)) (c2 : Cal X.prog X.w X.K X.mg X.base x2 kc (pureF f2)) (hr : Room j X.A) (tk : Takes X W) (ha : DL X m W (e :: es) gs)
    (la : ka ≤ j := by decide) (lb : kb ≤ j := by decide) (lc : kc ≤ j := by decide) (h0 : Gl X x0 := by rfl) (h1 : Gl X x1 := by rfl) (h2 : Gl X x2 := by rfl)
    (hN : X.N[i]? = some y := by rfl) (hv : Vis X.env.scope y := by first | exact Or.inl rfl | exact Or.inr (Or.inl rfl) | exact Or.inr (Or.inr rfl)) (hd : (y == ("__debug__" : Str)) = false := by decide) (hcd : (y == ("__classdict__" : Str)) = false := by decide)
    (d0 : (x0 == ("__debug__" : Str)) = false := by decide) (d1 : (x1 == ("__debug__" : Str)) = false := by decide) (d2 : (x2 == ("__debug__" : Str)) = false := by decide)
    (hs : PlainIx (.Name y py) := by exact fun _ _ => rfl)
    (s0 : starEach [Expr.Name x0 p0, .Name x1 p1, .Name x2 p2] X.env = (false, eval (.Name x0 p0) X.env) :: starEach [Expr.Name x1 p1, .Name x2 p2] X.env := by rfl)
    (s1 : starEach [Expr.Name x1 p1, .Name x2 p2] X.env = (false, eval (.Name x1 p1) X.env) :: starEach [Expr.Name x2 p2] X.env := by rfl)
    (s2 : starEach [Expr.Name x2 p2] X.env = (false, eval (.Name x2 p2) X.env) :: starEach [] X.env := by rfl)
    (he : starEach (e :: es) X.env = (false, eval e X.env) :: starEach es X.env := by rfl) (hpl : (backTo pos (starEach es X.env)).any (·.1) = false := by rfl) :
    DE X m W (.Call (.Subscript (.List [.Name x0 p0, .Name x1 p1, .Name x2 p2] pl) (.Name y py) ps) (e :: es) [] pos) (ePick3 f0 f1 f2 i gs) := by
  obtain ⟨a0, b0, q0, m0, k0, e0, F0⟩ := c0.ex
  obtain ⟨a1, b1, q1, m1, k1, e1, F1⟩ := c1.ex
  obtain ⟨a2, b2, q2, m2, k2, e2, F2⟩ := c2.ex
  refine ⟨fun pins s σ H Q I h => ?_⟩
  rw [arm_pick]
  refine wpAny_bind ?_
  have key : tOp (rIxL X.K) (tLst (tCons (tC (.ref a0)) (tCons (tC (.ref a1)) (tCons (tC (.ref a2)) tNil)))) (tVar i) σ H (fun v H1 => ∃ (f : Addr) (fd : FuncData) (qs : List Str) (fs : PFs) (k : Nat), v = .ref f ∧ k ≤ j ∧ PySem.W.keepIn X.K (.ref f) = true ∧ L2.Binds X.K fd qs [] ∧ FnOk X.prog X.w X.K X.mg X.base (L2.CX X.prog X.w) k f fd qs (spF X.K (pureF fs)) ∧ tD X.K m W (eFn fs gs) σ H1 Q) := by
    obtain ⟨F, ρ, r, a⟩ := h
    unfold ePick3 at a
    split at a
    · rename_i n hn
      obtain ⟨ov, g1, g2⟩ := r.slot i _ hn
      obtain ⟨v, rfl, g3⟩ := g2
      obtain rfl : v = V.int n := g3
      refine ⟨by show 3 ≤ sizeLine; exact size_le (by decide), fun p np => ⟨V.int n, g1, p, [V.ref a0, .ref a1, .ref a2], n, ?_⟩⟩
      obtain ⟨r2, _⟩ := r.aside_new np (.lst [V.ref a0, .ref a1, .ref a2])
      split at a
      · rename_i z
        subst z
        exact ⟨V.ref a0, rfl, rfl, SqL.of upd_same, by simp, a0, b0, q0, f0, ka, rfl, la, k0, e0, F0, F, ρ, r2, a⟩
      · split at a
        · rename_i z
          subst z
          exact ⟨V.ref a1, rfl, rfl, SqL.of upd_same, by simp, a1, b1, q1, f1, kb, rfl, lb, k1, e1, F1, F, ρ, r2, a⟩
        · split at a
          · rename_i z
            subst z
            exact ⟨V.ref a2, rfl, rfl, SqL.of upd_same, by simp, a2, b2, q2, f2, kc, rfl, lc, k2, e2, F2, F, ρ, r2, a⟩
          · exact a.elim
    · exact a.elim
  refine thn ((pe_ix ix_list (pe_lst (pa_cons (pe_globF h0 m0 d0) (pa_cons (pe_globF h1 m1 d1) (pa_cons (pe_globF h2 m2 d2) pa_nil s2) s1) s0)) (pv i hN hv hd hcd) hs).run pins s σ H _ I key) fun u st ⟨v, H1, I1, rv, f, fd, qs, fs, k, ev, hk, kk, bb, FF, hh⟩ => ?_
  subst ev
  obtain rfl : u = Value.ref f := rv
  exact PySem.W.callWith_K (h₀ := X.base) I1.ok.mod.kin kk (thn (ha.run pos pins st σ H1 _ I1 (promise_of hh)) fun us s3 ⟨vs, H2, I2, rr, q⟩ => ⟨I2.kIn, run_fnS FF (hr.mono hk) bb (passAt tk σ) I2 rr q⟩) he hpl
end
def pick3 (f0 f1 f2 : PFs) (gs : Rho → Out (List D)) (ρ : Rho) : Option S → Out D
  | some (.val (.int k)) => if k = 0 then eFn f0 gs ρ else if k = 1 then eFn f1 gs ρ else if k = 2 then eFn f2 gs ρ else .stuck
  | _ => .stuck
@[simp] theorem rd_pick3 {f0 f1 f2 : PFs} {i : Nat} {gs : Rho → Out (List D)} {ρ : Rho} : ePick3 f0 f1 f2 i gs ρ = pick3 f0 f1 f2 gs ρ (ρ[i]?) := by
  unfold ePick3 pick3
  rfl
@[simp] theorem rd_pick3i {f0 f1 f2 : PFs} {k : Int} {gs : Rho → Out (List D)} {ρ : Rho} : pick3 f0 f1 f2 gs ρ (some (.val (.int k))) = if k = 0 then eFn f0 gs ρ else if k = 1 then eFn f1 gs ρ else if k = 2 then eFn f2 gs ρ else .stuck := (rfl)
end Lt

/-! # Three names at once -/
namespace Lt
open PySem PySem.Spec L2
def gTrip (g h k : D → Rho → Option Rho) : D → Rho → Option Rho := fun d ρ => match d with
  | .tup [a, b, c] => ((g a ρ).bind (h b)).bind (k c)
  | _ => none
section
variable {X : Cx} {m : Fm} {W : WX} {K : PySem.W.Frag}
theorem g_trip {a b c : Expr} {kk : Nat} {pos : Pos} {g h k : D → Rho → Option Rho} (hc : X.calm = true) (ha : DG X m a g) (hb : DG X m b h) (hd : DG X m c k)
    (hs : (assignEach [a, b, c] X.env).map (·.2) = assign a X.env :: (assignEach [b, c] X.env).map (·.2) := by rfl) (hs2 : (assignEach [b, c] X.env).map (·.2) = assign b X.env :: (assignEach [c] X.env).map (·.2) := by rfl) (hs3 : (assignEach [c] X.env).map (·.2) = assign c X.env :: (assignEach [] X.env).map (·.2) := by rfl)
    (hn : (assignEach [a, b, c] X.env).length = 3 := by rfl) (hst : (assignEach [a, b, c] X.env).findIdx? (·.1) = none := by rfl) : DG X m (.Tuple [a, b, c] kk pos) (gTrip g h k) :=
  PG.imp (pg_tup hc (pgs_cons ha (pgs_cons hb (pgs_cons hd pgs_nil hs3) hs2) hs) hn hst) fun v σ H Q q => by
    obtain ⟨F, ρ, d, r, rv, q⟩ := q
    cases hq : gTrip g h k d ρ with
    | none => rw [hq] at q; exact q.elim
    | some ρ' =>
      rw [hq] at q
      unfold gTrip at hq
      split at hq
      · rename_i a1 b1 c1
        obtain ⟨ρ2, e0, e3⟩ := Option.bind_eq_some_iff.mp hq
        obtain ⟨ρ1, e1, e2⟩ := Option.bind_eq_some_iff.mp e0
        obtain ⟨p, vs, rfl, h1, x, vs1, rfl, h3, y, vs2, rfl, h4, z, vs3, rfl, h5, rfl⟩ := r.tupOf rv
        refine ⟨p, _, rfl, h1, rfl, x, [y, z], rfl, ⟨F, ρ, a1, r, h3, ?_⟩⟩
        rw [e1]
        refine fun σ1 r1 => ⟨y, [z], rfl, F, ρ1, b1, r1, h4, ?_⟩
        rw [e2]
        refine fun σ2 r2 => ⟨z, [], rfl, F, ρ2, c1, r2, h5, ?_⟩
        rw [e3]
        exact fun σ3 r3 => ⟨rfl, q σ3 r3⟩
      · cases hq
theorem g_tripV {a b c : Expr} {kk : Nat} {pos : Pos} {vs : List Nat} {g h k : D → Rho → Option Rho} (hc : X.calm = true) (ha : DGv X m vs a g) (hb : DGv X m vs b h) (hd : DGv X m vs c k)
    (hs : (assignEach [a, b, c] X.env).map (·.2) = assign a X.env :: (assignEach [b, c] X.env).map (·.2) := by rfl) (hs2 : (assignEach [b, c] X.env).map (·.2) = assign b X.env :: (assignEach [c] X.env).map (·.2) := by rfl) (hs3 : (assignEach [c] X.env).map (·.2) = assign c X.env :: (assignEach [] X.env).map (·.2) := by rfl)
    (hn : (assignEach [a, b, c] X.env).length = 3 := by rfl) (hst : (assignEach [a, b, c] X.env).findIdx? (·.1) = none := by rfl) : DGv X m vs (.Tuple [a, b, c] kk pos) (gTrip g h k) :=
  PG.imp (pg_tup hc (pgs_cons ha (pgs_cons hb (pgs_cons hd pgs_nil hs3) hs2) hs) hn hst) fun v σ H Q q => by
    obtain ⟨F, ρ, d, r, rv, q⟩ := q
    cases hq : gTrip g h k d ρ with
    | none => rw [hq] at q; exact q.elim
    | some ρ' =>
      rw [hq] at q
      unfold gTrip at hq
      split at hq
      · rename_i a1 b1 c1
        obtain ⟨ρ2, e0, e3⟩ := Option.bind_eq_some_iff.mp hq
        obtain ⟨ρ1, e1, e2⟩ := Option.bind_eq_some_iff.mp e0
        obtain ⟨p, vs, rfl, h1, x, vs1, rfl, h3, y, vs2, rfl, h4, z, vs3, rfl, h5, rfl⟩ := r.tupOf rv
        refine ⟨p, _, rfl, h1, rfl, x, [y, z], rfl, ⟨F, ρ, a1, r, h3, ?_⟩⟩
        rw [e1]
        refine fun σ1 r1 w1 => ⟨y, [z], rfl, F, ρ1, b1, r1, h4, ?_⟩
        rw [e2]
        refine fun σ2 r2 w2 => ⟨z, [], rfl, F, ρ2, c1, r2, h5, ?_⟩
        rw [e3]
        exact fun σ3 r3 w3 => ⟨rfl, q σ3 r3 ((w3.trans w2).trans w1)⟩
      · cases hq
end
@[simp] theorem rd_gtrip {g h k : D → Rho → Option Rho} {ρ : Rho} {a b c : D} : gTrip g h k (.tup [a, b, c]) ρ = ((g a ρ).bind (h b)).bind (k c) := (rfl)
end Lt

/-! # enumerate(tuple) -/
namespace Lt
open PySem PySem.Spec
open AutoSeq1 (wpAny_loadPart')
theorem meets_enum_tup (l : Addr) (items : Array Value) (n : Nat) (dct : Option Addr) (sl : Array (Option Value)) :
    Meets (Builtin.«enumerate.__new__» ⟨[.type "enumerate", .ref l], []⟩) (fun _ R s => s.heap.get? l = some { cls := .type "tuple", dict := dct, data := .seq items n, slots := sl } ∧
      R (.ok (.ret (.ref (s.heap.push { cls := .type "tuple_iterator", data := .fields #[.ref l, .int 0 0] }).objs.size)))
        { s with heap := (s.heap.push { cls := .type "tuple_iterator", data := .fields #[.ref l, .int 0 0] }).push { cls := .type "enumerate", data := .fields #[.none, .bool false, .ref s.heap.objs.size, rawInt 0, .none, .none] } }) :=
  .of_wp fun prog w A R s h => by
    obtain ⟨hp, g, d, tk, os⟩ := s; obtain ⟨hl, h⟩ := h
    have hsub := sub_enumerate
    have hL : Heap.IsTuple (Shared.heap ⟨hp, g, d, tk, os⟩) l items := ⟨_, hl, rfl, n, rfl⟩
    wp_walk using wpAny_loadPart' hl
    refine wpAny_stack_any fun st => wpAny_pure ?_
    split
    · rename_i c _ _ _ _ _
      cases (c == Value.type "enumerate")
      · wp_walk using wpAny_loadPart' hl, wpAny_pyIter_tuple hL
        exact ⟨_, rfl, h⟩
      · wp_walk using wpAny_loadPart' hl, wpAny_pyIter_tuple hL
        exact ⟨_, rfl, h⟩
    · wp_walk using wpAny_loadPart' hl, wpAny_pyIter_tuple hL
      exact ⟨_, rfl, h⟩
section
variable {prog : Program} {w : World} {A : Around} {E : Value → Shared → Prop} {s : Shared}
theorem call_enum_tup {l : Addr} {items : Array Value} {Q : Value → Shared → Prop} (hL : s.heap.IsTuple l items)
    (h : ∀ h', IsEnum h' (s.heap.objs.size + 1) s.heap.objs.size 0 .none → h'.IsTupleIter s.heap.objs.size l 0 → h'.objs.size = s.heap.objs.size + 2 →
      (∀ b o, s.heap.get? b = some o → h'.get? b = some o) → Q (.ref (s.heap.objs.size + 1)) { s with heap := h' }) :
    wpAny (model prog w) A (call (.type "enumerate") [.ref l]) Q E s := by
  obtain ⟨⟨c, dct, dt, sl⟩, hl, hc, n, hd⟩ := hL
  replace hc : c = .type "tuple" := hc
  replace hd : dt = .seq items n := hd
  subst hc hd
  refine callType_new F.called_enumerate (by decide) (F.typeCall_enumerate_1 _) (F.newCall_enumerate_1 _) (fun obj => F.args_object_init_2 obj _) F.entry_enumerate_new
    (meets_enum_tup l items n dct sl) ⟨hl, ?_⟩
  have hz : (s.heap.push { cls := .type "tuple_iterator", data := .fields #[.ref l, .int 0 0] }).objs.size = s.heap.objs.size + 1 := Heap.size_push ..
  show _ ∧ _
  rw [hz]
  have he : IsEnum ((s.heap.push { cls := .type "tuple_iterator", data := .fields #[.ref l, .int 0 0] }).push
      { cls := .type "enumerate", data := .fields #[.none, .bool false, .ref s.heap.objs.size, rawInt 0, .none, .none] }) (s.heap.objs.size + 1) s.heap.objs.size 0 .none := by
    have := Heap.get?_push_size (s.heap.push { cls := .type "tuple_iterator", data := .fields #[.ref l, .int 0 0] })
      (o := { cls := .type "enumerate", data := .fields #[.none, .bool false, .ref s.heap.objs.size, rawInt 0, .none, .none] }) rfl
    rw [hz] at this; exact this
  refine ⟨⟨_, he, rfl⟩, h _ he ⟨_, Heap.get?_push_of_some _ (Heap.get?_push_size _ rfl), rfl, rfl⟩ (by rw [Heap.size_push, hz]) fun b o x => Heap.get?_push_of_some _ (Heap.get?_push_of_some _ x)⟩
end
end Lt

/-! # enumerate(tuple): walked -/
namespace Lt
open PySem PySem.Spec L2
open PyProof.Rows
def IteT (K : PySem.W.Frag) (a : Addr) : It :=
  ⟨fun i H => ∃ (xs : List V) (x : V), SqT K H a xs ∧ xs[i]? = some x, fun i H v H' => ∃ T x, v = .ref T ∧ H T = none ∧ H' = upd H T (.tup [.int (i : Nat), x]) ∧ ∀ xs, SqT K H a xs → xs[i]? = some x, fun i H => ∃ xs : List V, SqT K H a xs ∧ xs.length ≤ i⟩
theorem enT_end {prog : Program} {w : World} {A : Around} {E : Value → Shared → Prop} {s : Shared} {e it t : Addr} {items : Array Value} {i : Nat} {j : Int} {old : Value} {Q : Option Value → Shared → Prop} (hh : A.in1.handled = none)
    (he : IsEnum s.heap e it j old) (hit : s.heap.IsTupleIter it t i) (ht : s.heap.IsTuple t items) (hx : items[i]? = none)
    (hQ : ∀ h', Heap.ExtBut it s.heap h' → Q none { s with heap := h' }) : wpAny (model prog w) A (pyNext (.ref e)) Q E s := by
  have hT : s.TypeIs (.ref e) "enumerate" := ⟨_, he, rfl⟩
  unfold pyNext
  refine wpAny_bind (wpAny_attempt (wpAny_callSpecial?_slot (name := Str.ofString "__next__") hT F.slot_enumerate_next
    (wpAny_call_entry F.slot_enumerate_next hT F.entry_enumerate_next ?_ (F.args_enumerate_next_1 _))))
  show wpAny _ _ (field (.ref e) 2 >>= _) _ _ _
  refine wpAny_bind (wpAny_field he rfl (x := .ref it) rfl ?_)
  refine wpAny_bind (wpAny_nextOf_tuple_end hh hit ht hx fun h' x he' hx' => ?_)
  obtain ⟨o, ho, hc⟩ := hx'
  refine wpAny_bind (wpAny_isInstance (T := "StopIteration") (b := true) ⟨o, ho, hc⟩ isSubtype_stop ?_)
  exact wpAny_pure (hQ _ he')
theorem turn_enT {P : Program} {w : World} {K : PySem.W.Frag} {elts : List Expr} {kk : Nat} {tpos : Pos} (a e it : Addr) (hae : a ≠ e) (hai : a ≠ it) :
    Turn P w K (.Tuple elts kk tpos) (IteT K a) [e, it] e (fun i h => (∃ old, IsEnum h e it ((i : Nat) : Int) old) ∧ h.IsTupleIter it a i ∧ e ≠ it) where
  mem := by simp
  obj := fun i h st b hb => by
    obtain ⟨⟨old, he⟩, ⟨o, ho, hc, hd⟩, _⟩ := st
    have e' : b = e ∨ b = it := by simpa using hb
    rcases e' with z | z
    · rw [z]; exact ⟨_, he, fun v q => nomatch q⟩
    · rw [z]; exact ⟨o, ho, fun v q => by rw [hd] at q; cases q⟩
  keep := fun i h h' st k => let ⟨⟨old, he⟩, hi, hne⟩ := st; ⟨⟨old, k e (by simp) _ he⟩, hi.at fun o q => k it (by simp) o q, hne⟩
  item := by
    intro X hP hw hK hc i pins s σ H E I hf st hg
    subst hP hw hK
    obtain ⟨⟨old, he⟩, hit, hne⟩ := st
    obtain ⟨xs, x, hq, hx⟩ := hg
    obtain ⟨its, rv, p, hz⟩ := I.tuple hq
    obtain ⟨u, hu, ru⟩ := rv.get hx
    have hel : e < s.heap.objs.size := Heap.lt_size he
    have hil : it < s.heap.objs.size := by obtain ⟨_, q, _⟩ := hit; exact Heap.lt_size q
    have Dr := Draws.tuple (prog := X.prog) (w := X.w) (A := X.A.in1) (I.ok.hd hc) it a hai its.toArray
    have hlt : i < its.toArray.size := by
      have := (List.getElem?_eq_some_iff.mp hu).1
      simpa using this
    refine wpAny_pyNext_enum_itemD Dr he ⟨hit, p⟩ hlt hne (by simp [hne, Ne.symm hae]) fun x' h' tk hP ho hit' hT hsz hk => ?_
    have ex : x' = u := by
      have hP' : its.toArray[i]? = some x' := hP
      rw [List.getElem?_toArray, hu] at hP'
      exact (Option.some.inj hP').symm
    subst ex
    refine ⟨_, rfl, wpAny_letOwnedTupleGo_enum (s := { s with heap := h', toks := tk + 1 }) ho fun h'' he' sb => ?_⟩
    have hT2 : h''.get? s.heap.objs.size = some { cls := .type "tuple", data := .seq #[.int i tk, x'] } := (sb.2 _ (Nat.ne_of_gt hel)).trans hT
    have new : ObjOk X.prog X.w (upd H s.heap.objs.size (.tup [.int (i : Nat), x])) h'' s.heap.objs.size (.tup [.int (i : Nat), x]) :=
      ⟨by show 2 ≤ sizeLine; decide, [.int i tk, x'], .cons ⟨_, rfl⟩ (.cons ru .nil), ⟨_, hT2, rfl, _, rfl⟩⟩
    have I1 : Inv X pins σ (upd H s.heap.objs.size (.tup [.int (i : Nat), x])) { s with heap := h'', toks := tk + 1 } :=
      I.turnedNew (ch := [e, it]) (fun b ob hb q => (sb.2 b (fun z => hb (by simp [z]))).trans (hk b ob (fun z => hb (by simp [z])) (fun z => hb (by simp [z])) q)) hf (Nat.le_refl _) new
    refine ⟨.ref s.heap.objs.size, _, I1, rfl, ⟨_, x, rfl, I.hok.fresh (Nat.le_refl _), rfl, fun ys hy => by rw [I.tuple_inj hy hq]; exact hx⟩, ⟨⟨x', ?_⟩, hit'.1.at fun o q => (sb.2 it (Ne.symm hne)).trans q, hne⟩, fun b hb => ?_⟩
    · have e1 : ((i + 1 : Nat) : Int) = (i : Int) + 1 := by omega
      rw [e1]; exact he'
    · have hb' : b < s.heap.objs.size := by
        have e' : b = e ∨ b = it := by simpa using hb
        rcases e' with z | z
        · rw [z]; exact hel
        · rw [z]; exact hil
      rw [upd_ne (Nat.ne_of_lt hb')]
      exact (hf b hb).1
  done := by
    intro X hP hw hK hc i pins s σ H E I hf st hg
    subst hP hw hK
    obtain ⟨⟨old, he⟩, hit, hne⟩ := st
    obtain ⟨xs, hq, hx⟩ := hg
    obtain ⟨its, rv, p, hz⟩ := I.tuple hq
    obtain ⟨f0, f1, f2, f3, f4, f5⟩ := hf it (by simp)
    have hl := rv.length
    exact enT_end (I.ok.hd hc) he hit p (by simp; omega) fun h' eb => ⟨rfl, I.turned (t' := s.toks) (fun b o hb q => eb b o hb q) f0 f1 f3 f4 f5⟩
  self := fun A i s Q E st h => let ⟨⟨_, he⟩, _⟩ := st; wpAny_pyIter_enum he h
end Lt

/-! # enumerate(list or tuple) -/
namespace Lt
open PySem PySem.Spec L2
open PyProof.Rows
def iEnX (K : PySem.W.Frag) (ta : TA) : TI := fun σ H R => ta σ H fun vs H1 => (∃ a xs, vs = [.ref a] ∧ SqL K H1 a xs ∧ R (Ite K a) H1) ∨ ∃ a xs, vs = [.ref a] ∧ SqT K H1 a xs ∧ R (IteT K a) H1
theorem pi_enX {X : Cx} {e : Expr} {ta : TA} {p pos tpos : Pos} {elts : List Expr} {kk : Nat} (hg : Gl X "enumerate") (hm : X.mg "enumerate" = none) (ha : PA X [e] ta) (hs : starEach [e] X.env = [(false, eval e X.env)] := by rfl) :
    PI X (.Tuple elts kk tpos) (.Call (.Name "enumerate" p) [e] [] pos) (iEnX X.K ta) := by
  refine ⟨fun pins s σ H R I h => ?_⟩
  refine Call_ (ld_blt I hg hm boot_enumerate (PyProof.Rows.callWith_type1 (thn (ha.run pos pins s σ H _ I h) fun us s1 ⟨vs, H1, I1, r1, q1⟩ => ?_) hs rfl))
  rcases q1 with ⟨a, xs, ex, hq, q⟩ | ⟨a, xs, ex, hq, q⟩
  · subst ex
    cases r1 with
    | cons r rr =>
      cases rr
      cases r
      obtain ⟨its, rv, p', hz⟩ := I1.list hq
      refine call_enumerate_list p'.isList fun h' he hit hsz hk => wpAny_pyIter_enum he ?_
      have I2 : Inv X pins σ H1 { s1 with heap := h' } := I1.kept (t' := s1.toks) hk
      refine ⟨s1.heap.objs.size + 1, [s1.heap.objs.size + 1, s1.heap.objs.size], _, _, H1, rfl, I2, turn_enum a (s1.heap.objs.size + 1) s1.heap.objs.size, ⟨⟨.none, he⟩, hit, Nat.succ_ne_self _⟩, fun b hb => ?_, q⟩
      have e' : b = s1.heap.objs.size + 1 ∨ b = s1.heap.objs.size := by simpa using hb
      have hle : s1.heap.objs.size ≤ b := by
        rcases e' with z | z
        · rw [z]; exact Nat.le_add_right _ _
        · rw [z]; exact Nat.le_refl _
      exact I1.fpOk hle (I1.hok.fresh hle)
  · subst ex
    cases r1 with
    | cons r rr =>
      cases rr
      cases r
      obtain ⟨its, rv, p', hz⟩ := I1.tuple hq
      have hal : a < s1.heap.objs.size := by obtain ⟨_, q', _⟩ := p'; exact Heap.lt_size q'
      refine call_enum_tup p' fun h' he hit hsz hk => wpAny_pyIter_enum he ?_
      have I2 : Inv X pins σ H1 { s1 with heap := h' } := I1.kept (t' := s1.toks) hk
      refine ⟨s1.heap.objs.size + 1, [s1.heap.objs.size + 1, s1.heap.objs.size], _, _, H1, rfl, I2, turn_enT a (s1.heap.objs.size + 1) s1.heap.objs.size (Nat.ne_of_lt (Nat.lt_succ_of_lt hal)) (Nat.ne_of_lt hal), ⟨⟨.none, he⟩, hit, Nat.succ_ne_self _⟩, fun b hb => ?_, q⟩
      have e' : b = s1.heap.objs.size + 1 ∨ b = s1.heap.objs.size := by simpa using hb
      have hle : s1.heap.objs.size ≤ b := by
        rcases e' with z | z
        · rw [z]; exact Nat.le_add_right _ _
        · rw [z]; exact Nat.le_refl _
      exact I1.fpOk hle (I1.hok.fresh hle)
theorem itok_enT {K : PySem.W.Frag} {F : Hp} {a : Addr} {ds : List D} {xs : List V} (h1 : SqT K F a xs) (h2 : Reps K F ds xs) : ItOk K (IteT K a) F (enD 0 ds) := by
  intro i F' H s1 s2
  have q1 : SqT K H a xs := Same.seqT s2 (Same.seqT s1 h1)
  refine ⟨fun d hd => ?_, fun hl => ⟨xs, q1, ?_⟩⟩
  · obtain ⟨d', hd', rfl⟩ := enD_get hd
    obtain ⟨x, hx, rx⟩ := h2.at hd'
    refine ⟨⟨xs, x, q1, hx⟩, fun v H' hv => .inr (.inr ?_)⟩
    obtain ⟨T, x', e4, n, e5, z1⟩ := hv
    have w1 := z1 xs q1
    rw [hx] at w1
    cases w1
    subst e4
    subst e5
    have nf : F' T = none := by
      cases z : F' T with
      | none => rfl
      | some u => rw [s2 _ _ z] at n; cases n
    have p1 := Rep.mono s1 _ _ rx
    refine ⟨upd F' T (.tup [.int (i : Nat), x]), fun c u q => ?_, fun c u q => ?_, fun c u q => ?_, fun c q => ?_, ?_⟩
    · rw [upd_ne (ne_of_none q nf)]; exact q
    · by_cases c1 : c = T
      · subst c1; rw [upd_same] at q ⊢; exact q
      · rw [upd_ne c1] at q ⊢; exact s2 c u q
    · rw [upd_ne (ne_of_none q n)]; exact q
    · by_cases c1 : c = T
      · subst c1; exact .inr n
      · rw [upd_ne c1] at q; exact .inl q
    · have st : Same F' (upd F' T (.tup [.int (i : Nat), x])) := fun c u q => by
        rw [upd_ne (ne_of_none q nf)]; exact q
      exact ⟨T, _, rfl, SqT.of upd_same, .int (i : Nat), _, rfl, by show V.int _ = V.int _; rw [Nat.zero_add], x, [], rfl, Rep.mono st _ _ p1, rfl⟩
  · rw [enD_len] at hl
    rw [h2.len]
    exact hl
def iEnAD (gs : Rho → Out (List D)) : Rho → Out (List D) := fun ρ => (gs ρ).bind fun ds ρ1 => lift (match ds with | [.lst xs] => some (enD 0 xs) | [.tup xs] => some (enD 0 xs) | _ => none) ρ1
theorem i_enA {X : Cx} {m : Fm} {W : WX} {e : Expr} {gs : Rho → Out (List D)} {p pos tpos : Pos} {elts : List Expr} {kk : Nat} (hm : X.mg "enumerate" = none) (ha : DL X m W [e] gs) (hg : Gl X "enumerate" := by rfl)
    (hs : starEach [e] X.env = [(false, eval e X.env)] := by rfl) :
    DI X m W (.Tuple elts kk tpos) (.Call (.Name "enumerate" p) [e] [] pos) (iEnAD gs) :=
  PI.imp (pi_enX hg hm ha hs) fun σ H Rr h => by
    obtain ⟨F, ρ, r, a⟩ := h
    refine ⟨F, ρ, r, (Aft.bind a).imp fun ds ρ1 F1 H1 r1 s1 a1 vs rvs => ?_⟩
    obtain ⟨zs, e, q⟩ := Aft.lift a1
    split at e <;> cases e
    · obtain ⟨v, rfl, h1⟩ := rvs.one'
      obtain ⟨p, vs, rfl, g1, g2⟩ := h1
      exact .inl ⟨p, vs, rfl, SqL.of (r1.sub _ _ g1), q F1 H1 r1 (Same.refl _) _ (itok_en g1 g2)⟩
    · obtain ⟨v, rfl, h1⟩ := rvs.one'
      obtain ⟨p, vs, rfl, g1, g2⟩ := h1
      exact .inr ⟨p, vs, rfl, Same.seqT r1.sub g1, q F1 H1 r1 (Same.refl _) _ (itok_enT g1 g2)⟩
end Lt

/-! # Constants: tuples of tuples of ints -/
namespace Lt
open PySem PySem.Spec L2
/-- a written tuple of ints -/
def TupI (K : PySem.W.Frag) (v : Value) (ns : List Int) : Prop := ∃ (p : Addr) (od : Option Addr) (its : Array Value) (n : Nat) (sl : Array (Option Value)), v = .ref p ∧ K.lookup p = some ⟨.type "tuple", od, .seq its n, sl⟩ ∧ Vals (ns.map V.int) its.toList ∧ its.size ≤ 1000
theorem tupI_rep {K : PySem.W.Frag} {v : Value} {ns : List Int} (h : TupI K v ns) : ∃ p, v = .ref p ∧ ∀ F, Rep K F (.tup (ns.map .int)) (.ref p) := by
  obtain ⟨p, od, its, n, sl, rfl, l, r, hz⟩ := h
  refine ⟨p, rfl, fun F => ⟨p, ns.map V.int, rfl, .inr ⟨_, its, n, l, rfl, rfl, size_le (by omega), r⟩, ?_⟩⟩
  clear l r hz
  induction ns with
  | nil => rfl
  | cons a ns ih => exact ⟨.int a, _, rfl, rfl, ih⟩
def TupsI (K : PySem.W.Frag) : List Value → List (List Int) → Prop
  | [], [] => True
  | v :: vs, ns :: nss => TupI K v ns ∧ TupsI K vs nss
  | _, _ => False
theorem tupsI_rep {K : PySem.W.Frag} : ∀ {vs : List Value} {nss : List (List Int)}, TupsI K vs nss → ∃ xs : List V, Vals xs vs ∧ ∀ F, Reps K F (nss.map fun ns => D.tup (ns.map .int)) xs
  | [], [], _ => ⟨[], .nil, fun F => rfl⟩
  | v :: vs, ns :: nss, h => by
    obtain ⟨p, rfl, hp⟩ := tupI_rep h.1
    obtain ⟨xs, r, hx⟩ := tupsI_rep h.2
    exact ⟨.ref p :: xs, .cons rfl r, fun F => ⟨.ref p, xs, rfl, hp F, hx F⟩⟩
  | [], _ :: _, h => h.elim
  | _ :: _, [], h => h.elim
theorem gc_tt {mg : Str → Option Value} {K : PySem.W.Frag} {x : Str} {a : Addr} {od : Option Addr} {vs : Array Value} {n : Nat} {sl : Array (Option Value)} {nss : List (List Int)} (h : mg x = some (.ref a)) (l : K.lookup a = some ⟨.type "tuple", od, .seq vs n, sl⟩) (hv : TupsI K vs.toList nss) (hz : vs.size ≤ 1000) :
    Gc mg K x (.tup (nss.map fun ns => D.tup (ns.map .int))) := by
  obtain ⟨xs, r, hx⟩ := tupsI_rep hv
  exact ⟨.ref a, .ref a, h, rfl, fun F => ⟨a, xs, rfl, .inr ⟨_, vs, n, l, rfl, rfl, size_le (by omega), r⟩, hx F⟩⟩
end Lt

/-! # f(), nothing handed in -/
namespace Lt
open PySem PySem.Spec L2
section
variable {X : Cx} {k : Nat} {f : Addr} {fd : FuncData} {ps : List Str} {sp : Sp} {E : St → XK} {x : Str} {p pos : Pos} {CX : CXT}
theorem pe_callS0 (F : FnOk X.prog X.w X.K X.mg X.base CX k f fd ps sp) (hr : Room k X.A) (hg : Gl X x) (hm : X.mg x = some (.ref f)) (hk : PySem.W.keepIn X.K (.ref f) = true) (hb : Binds X.K fd ps []) (hx : ∀ σ, PassesAt CX X σ (E σ))
    (hdb : (x == ("__debug__" : Str)) = false := by decide) : PE X (.Call (.Name x p) [] [] pos) (tCallS sp E tNil) := by
  refine ⟨fun pins s σ H Q I h => ?_⟩
  refine wpAny_Call_Name_kw (ld_glob I hg hm ?_ hdb)
  exact PySem.W.callWith_K0 I.kIn hk (run_fnS (us := []) F hr hb (hx σ) I .nil h)
end
section
variable {X : Cx} {m : Fm} {W : WX}
theorem d_callC0 {k j : Nat} {fs : PFs} {x : Str} {p pos : Pos} (c : Cal X.prog X.w X.K X.mg X.base x k (pureF fs)) (hr : Room j X.A) (tk : Takes X W) (hk : k ≤ j := by decide) (hg : Gl X x := by rfl)
    (hdb : (x == ("__debug__" : Str)) = false := by decide) : DE X m W (.Call (.Name x p) [] [] pos) (eFn fs aNil) := by
  obtain ⟨f, fd, ps, h1, h2, h3, h4⟩ := c.ex
  refine PE.imp (pe_callS0 h4 (hr.mono hk) hg h1 h2 h3 (fun σ => passAt tk σ) hdb) fun σ H Q h => ?_
  have q := promise_of h
  unfold tCallS at q ⊢
  exact nil_of q
end
@[simp] theorem rd_sz7' : 7 ≤ sizeLine := size_le (by decide)
@[simp] theorem rd_sz8' : 8 ≤ sizeLine := size_le (by decide)
@[simp] theorem rd_sz9' : 9 ≤ sizeLine := size_le (by decide)
@[simp] theorem rd_sz10' : 10 ≤ sizeLine := size_le (by decide)
@[simp] theorem rd_sz11' : 11 ≤ sizeLine := size_le (by decide)
@[simp] theorem rd_sz12' : 12 ≤ sizeLine := size_le (by decide)
@[simp] theorem rd_sz13' : 13 ≤ sizeLine := size_le (by decide)
@[simp] theorem rd_sz14' : 14 ≤ sizeLine := size_le (by decide)
@[simp] theorem rd_sz15' : 15 ≤ sizeLine := size_le (by decide)
@[simp] theorem rd_sz16' : 16 ≤ sizeLine := size_le (by decide)
@[simp] theorem rd_sz17' : 17 ≤ sizeLine := size_le (by decide)
@[simp] theorem rd_sz18' : 18 ≤ sizeLine := size_le (by decide)
@[simp] theorem rd_sz19' : 19 ≤ sizeLine := size_le (by decide)
@[simp] theorem rd_sz20' : 20 ≤ sizeLine := size_le (by decide)
@[simp] theorem rd_sz21' : 21 ≤ sizeLine := size_le (by decide)
@[simp] theorem rd_sz22' : 22 ≤ sizeLine := size_le (by decide)
@[simp] theorem rd_sz23' : 23 ≤ sizeLine := size_le (by decide)
@[simp] theorem rd_sz24' : 24 ≤ sizeLine := size_le (by decide)
@[simp] theorem rd_sz25' : 25 ≤ sizeLine := size_le (by decide)
@[simp] theorem rd_sz26' : 26 ≤ sizeLine := size_le (by decide)
@[simp] theorem rd_sz27' : 27 ≤ sizeLine := size_le (by decide)
@[simp] theorem rd_sz28' : 28 ≤ sizeLine := size_le (by decide)
@[simp] theorem rd_sz29' : 29 ≤ sizeLine := size_le (by decide)
@[simp] theorem rd_sz30' : 30 ≤ sizeLine := size_le (by decide)
@[simp] theorem rd_sz31' : 31 ≤ sizeLine := size_le (by decide)
@[simp] theorem rd_sz32' : 32 ≤ sizeLine := size_le (by decide)
def P0 (g : ResP) : PFs | [] => g | _ => .stuck
theorem P0.len {g : ResP} : ∀ ds, P0 g ds ≠ .stuck → ds.length = 0
  | [], _ => rfl
  | _ :: _, h => absurd rfl h
theorem P0.all {g : ResP} {F : List D → ResP} (h : g ≠ .stuck → F [] = g) : ∀ ds, P0 g ds ≠ .stuck → F ds = P0 g ds := fun ds q => by
  have hl := P0.len ds q
  match ds, hl, q with
  | [], _, q => exact h q
end Lt

/-! # [e for x in xs for y in ys] -/
namespace Lt
open PySem PySem.Spec L2
theorem wipe_in {j : Nat} : ∀ {τ : St} {us : List Nat}, j ∈ us → (wipe τ us)[j]? = if j < τ.length then some none else none
  | τ, [], h => by cases h
  | τ, u :: us, h => by
    show ((wipe τ us).set u none)[j]? = _
    by_cases e : u = j
    · subst e
      by_cases hl : u < τ.length
      · rw [List.getElem?_set_self (by rw [wipe_length]; exact hl), if_pos hl]
      · rw [List.getElem?_eq_none (by rw [List.length_set, wipe_length]; omega), if_neg hl]
    · rw [List.getElem?_set_ne e]
      exact wipe_in ((List.mem_cons.mp h).resolve_left (Ne.symm e))
theorem wipe_idem (σ : St) (vs : List Nat) : wipe (wipe σ vs) vs = wipe σ vs := by
  refine List.ext_getElem? fun j => ?_
  by_cases hj : j ∈ vs
  · rw [wipe_in hj, wipe_in hj, wipe_length]
  · rw [wipe_at hj]
theorem clr_in {j : Nat} : ∀ {τ : Rho} {us : List Nat}, j ∈ us → (clr τ us)[j]? = if j < τ.length then some .no else none
  | τ, [], h => by cases h
  | τ, u :: us, h => by
    show ((clr τ us).set u .no)[j]? = _
    by_cases e : u = j
    · subst e
      by_cases hl : u < τ.length
      · rw [List.getElem?_set_self (by rw [clr_length]; exact hl), if_pos hl]
      · rw [List.getElem?_eq_none (by rw [List.length_set, clr_length]; omega), if_neg hl]
    · rw [List.getElem?_set_ne e]
      exact clr_in ((List.mem_cons.mp h).resolve_left (Ne.symm e))
theorem clr_out {j : Nat} : ∀ {τ : Rho} {us : List Nat}, j ∉ us → (clr τ us)[j]? = τ[j]?
  | τ, [], _ => rfl
  | τ, u :: us, h => by
    show ((clr τ us).set u .no)[j]? = _
    rw [List.getElem?_set_ne (fun e : u = j => h (by rw [e]; exact List.mem_cons_self))]
    exact clr_out fun z => h (List.mem_cons_of_mem _ z)
theorem clr_idem (ρ : Rho) (vs : List Nat) : clr (clr ρ vs) vs = clr ρ vs := by
  refine List.ext_getElem? fun j => ?_
  by_cases hj : j ∈ vs
  · rw [clr_in hj, clr_in hj, clr_length]
  · rw [clr_out hj]
def lcI (vs1 : List Nat) (gt1 : D → Rho → Option Rho) (t1 : Rho → Out Bool) (ge : Rho → Out D) : List D → List D → Rho → Out (List D)
  | [], acc, ρ => .ok acc (clr ρ vs1)
  | d :: ds, acc, ρ => match gt1 d (clr ρ vs1) with
    | none => .stuck
    | some ρ1 => (t1 ρ1).bind fun b ρ2 => if b = true then (ge ρ2).bind fun e ρ3 => if acc.length < sizeLine then lcI vs1 gt1 t1 ge ds (acc ++ [e]) ρ3 else .stuck else lcI vs1 gt1 t1 ge ds acc ρ2
def lc2D (vs vs1 : List Nat) (gt : D → Rho → Option Rho) (t : Rho → Out Bool) (gs1 : Rho → Out (List D)) (gt1 : D → Rho → Option Rho) (t1 : Rho → Out Bool) (ge : Rho → Out D) : List D → List D → Rho → Out D
  | [], acc, ρ => .ok (.lst acc) (clr ρ vs)
  | d :: ds, acc, ρ => match gt d (clr ρ vs) with
    | none => .stuck
    | some ρ1 => (t ρ1).bind fun b ρ2 => if b = true then (gs1 ρ2).bind fun es ρ3 => (lcI vs1 gt1 t1 ge es acc ρ3).bind fun acc' ρ4 => lc2D vs vs1 gt t gs1 gt1 t1 ge ds acc' ρ4 else lc2D vs vs1 gt t gs1 gt1 t1 ge ds acc ρ2
def eLc2Q (vs vs1 : List Nat) (gs : Rho → Out (List D)) (gt : D → Rho → Option Rho) (t : Rho → Out Bool) (gs1 : Rho → Out (List D)) (gt1 : D → Rho → Option Rho) (t1 : Rho → Out Bool) (ge : Rho → Out D) : Rho → Out D := fun ρ => (gs ρ).bind fun ds ρ1 => match lc2D vs vs1 gt t gs1 gt1 t1 ge ds [] ρ1 with
  | .ok d ρ2 => .ok d ρ2
  | _ => .stuck
section
variable {X : Cx} {m : Fm} {W : WX} {K : PySem.W.Frag}
theorem f0_none {F H : Hp} {ρ : Rho} {σ : St} (r : Rel K m F ρ σ H) {p : Addr} (n : H p = none) : m.F0 p = none := by
  cases z : m.F0 p with
  | none => rfl
  | some u => rw [r.sub _ _ (r.sub0 _ _ z)] at n; cases n
theorem Aside.clr {F H : Hp} {ρ : Rho} {σ σ' : St} {p : Addr} {o : HO} (a : Aside m F ρ σ H p o) {vs : List Nat} (h : ∀ i, i ∉ vs → σ'[i]? = σ[i]?) : Aside m F (clr ρ vs) σ' H p o :=
  ⟨a.at_, a.fz, a.he, a.nb, fun j b o' h1 h2 => by
    rcases clr_at h1 with z | ⟨q1, q2⟩
    · cases z
    · rw [h j q2] at h2
      exact a.ns j b o' q1 h2⟩
/-- the inner loop: the list at Dd holds acc ahead, accE behind; Nx is reached -/
theorem lcI_of {vs1 : List Nat} {gt1 : D → Rho → Option Rho} {t1 : Rho → Out Bool} {ge : Rho → Out D} {g1 : TG} {tt1 : TT} {te : TE}
    (hg : ∀ m v σ H Q, tGv K m vs1 gt1 v σ H Q → g1 v σ H Q) (ht : ∀ m σ H Q, tBl K m W0 t1 σ H Q → tt1 σ H Q) (he : ∀ m σ H Q, tD K m W0 ge σ H Q → te σ H Q)
    {es acc0 accE : List D} {ρ ρE : Rho} {F : Hp} {σ2 : St} {H : Hp} {Dd : Addr} {xs0 : List V} {J1 : It} {Nx : Hp → Prop} (hJ : ItOk K J1 F es) (hD0 : m.F0 Dd = none) (r : Rel K m F ρ σ2 H) (a : Aside m F ρ σ2 H Dd (.lst xs0)) (rx : Reps K F acc0 xs0)
    (e0 : lcI vs1 gt1 t1 ge es acc0 ρ = .ok accE ρE)
    (hN : ∀ F2 H2 xs, Same F F2 → Rel K m F2 ρE (wipe σ2 vs1) H2 → Aside m F2 ρE (wipe σ2 vs1) H2 Dd (.lst xs) → Reps K F2 accE xs → Nx H2) :
    ∃ W1 : Nat → Nat → Hp → Prop, (∃ m, W1 0 m H) ∧ ∀ j k H, W1 j k H →
      (J1.stop j H ∧ Nx H) ∨ (J1.go j H ∧ ∃ Nx1 : Hp → Prop, (∀ H', Nx1 H' → ∃ k', k' < k ∧ W1 (j + 1) k' H') ∧ ∀ x H', J1.yld j H x H' → g1 x (wipe σ2 vs1) H' fun σ3 H5 => wipe σ3 vs1 = wipe σ2 vs1 ∧ tt1 σ3 H5 fun b H6 =>
        if b = true then te σ3 H6 fun y H7 => ∃ acc, H7 Dd = some (.lst acc) ∧ acc.length < sizeLine ∧ Nx1 (upd H7 Dd (.lst (acc ++ [y]))) else Nx1 H6) := by
  have an := a
  refine ⟨fun i n H2 => ∃ F2 ρ2 acc xs, n = es.length - i ∧ i ≤ es.length ∧ Same F F2 ∧ Rel K m F2 (clr ρ2 vs1) (wipe σ2 vs1) H2 ∧ Aside m F2 (clr ρ2 vs1) (wipe σ2 vs1) H2 Dd (.lst xs) ∧ Reps K F2 acc xs ∧ lcI vs1 gt1 t1 ge (es.drop i) acc ρ2 = .ok accE ρE,
    ⟨es.length, F, ρ, acc0, xs0, by simp, Nat.zero_le _, Same.refl _, r.clr (wipe_length _ _) (fun i hi => wipe_at hi), an.clr (fun i hi => wipe_at hi), rx, by simpa using e0⟩, ?_⟩
  rintro i n H2 ⟨F2, ρ2, acc, xs, rfl, hi, s2, r2, a2, rx2, e2⟩
  obtain ⟨j1, j2⟩ := hJ i F2 H2 s2 r2.sub
  by_cases hlt : i < es.length
  · have hd : es[i]? = some es[i] := List.getElem?_eq_getElem hlt
    obtain ⟨go, yl⟩ := j1 _ hd
    rw [List.drop_eq_getElem_cons hlt] at e2
    unfold lcI at e2
    refine .inr ⟨go, fun H' => ∃ F2 ρ2 acc xs, Same F F2 ∧ Rel K m F2 (clr ρ2 vs1) (wipe σ2 vs1) H' ∧ Aside m F2 (clr ρ2 vs1) (wipe σ2 vs1) H' Dd (.lst xs) ∧ Reps K F2 acc xs ∧ lcI vs1 gt1 t1 ge (es.drop (i + 1)) acc ρ2 = .ok accE ρE,
      fun H' ⟨F', ρ', acc', xs', q1, q2, q3, q4, q5⟩ => ⟨es.length - (i + 1), by omega, F', ρ', acc', xs', rfl, hlt, q1, q2, q3, q4, q5⟩, fun x H' hy => ?_⟩
    have rk := r2.aside a2
    have yl' := yl x H' hy
    obtain ⟨F3, r3, s3, q⟩ := rk.yields yl'
    cases e1 : gt1 es[i] (clr ρ2 vs1) with
    | none => rw [e1] at e2; cases e2
    | some ρ3 =>
      rw [e1] at e2
      dsimp only at e2
      refine hg _ _ _ _ _ ⟨F3, clr ρ2 vs1, es[i], r3, q, ?_⟩
      rw [e1]
      refine fun σ3 r4 w3 => ?_
      have w3' : wipe σ3 vs1 = wipe σ2 vs1 := by rw [w3, wipe_idem]
      refine ⟨w3', ht _ _ _ _ ⟨F3, ρ3, r4, ?_⟩⟩
      have hl3 : σ3.length = σ2.length := by rw [← wipe_length σ3 vs1, w3', wipe_length]
      have hw : ∀ i, i ∉ vs1 → (wipe σ2 vs1)[i]? = σ3[i]? := fun i hi => by rw [← w3']; exact wipe_at hi
      have on : ∀ {F5 H5 : Hp} {ρ5 : Rho}, Same F3 F5 → Rel K (m.put Dd (.lst xs)) F5 ρ5 σ3 H5 → Rel K m F5 (clr ρ5 vs1) (wipe σ2 vs1) H5 ∧ Aside m F5 (clr ρ5 vs1) (wipe σ2 vs1) H5 Dd (.lst xs) := fun {F5 H5 ρ5} s5 r5 => by
        obtain ⟨r6, a6⟩ := r5.unaside an.he an.nb hD0
        exact ⟨r6.clr (by rw [wipe_length, hl3]) hw, a6.clr hw⟩
      cases et : t1 ρ3 with
      | stuck => rw [et] at e2; cases e2
      | exc C ns ds' ρ' => rw [et] at e2; cases e2
      | ok b ρ4 =>
        rw [et] at e2
        intro F4 H4 r5 s4
        show if b = true then _ else _
        cases b with
        | false =>
          rw [bind_ok, if_neg Bool.false_ne_true] at e2
          rw [if_neg Bool.false_ne_true]
          obtain ⟨r6, a6⟩ := on s4 r5
          exact ⟨F4, ρ4, acc, xs, (s2.trans s3).trans s4, r6, a6, Reps.mono (s3.trans s4) _ _ rx2, e2⟩
        | true =>
          rw [bind_ok, if_pos rfl] at e2
          rw [if_pos rfl]
          refine he _ _ _ _ ⟨F4, ρ4, r5, ?_⟩
          cases ee : ge ρ4 with
          | stuck => rw [ee] at e2; cases e2
          | exc C ns ds' ρ' => rw [ee] at e2; cases e2
          | ok e ρ5 =>
            rw [ee, bind_ok] at e2
            intro F5 H5 r6 s5 v rv
            obtain ⟨r7, a7⟩ := on (s4.trans s5) r6
            split at e2
            · rename_i hz
              have rx5 := Reps.mono ((s3.trans s4).trans s5) _ _ rx2
              obtain ⟨r8, a8⟩ := r7.change a7 (.lst (xs ++ [v]))
              exact ⟨xs, a7.at_, by rw [rx2.len]; exact hz, F5, ρ5, acc ++ [e], xs ++ [v], ((s2.trans s3).trans s4).trans s5, r8, a8, rx5.snoc rv, e2⟩
            · cases e2
  · have e : i = es.length := by omega
    subst e
    refine .inl ⟨j2 (Nat.le_refl _), ?_⟩
    rw [List.drop_length] at e2
    unfold lcI at e2
    cases e2
    exact hN F2 H2 xs s2 r2 a2 rx2
theorem lc2_of {wi wi1 : TI} {vs vs1 : List Nat} {gs gs1 : Rho → Out (List D)} {gt gt1 : D → Rho → Option Rho} {t t1 : Rho → Out Bool} {ge : Rho → Out D} {g g1 : TG} {tt tt1 : TT} {te : TE} (hv : ∀ i ∈ vs1, i ∈ vs) (hi : ∀ σ H Rr, tI K m W gs σ H Rr → wi σ H Rr)
    (hg : ∀ m v σ H Q, tGv K m vs gt v σ H Q → g v σ H Q) (ht : ∀ m σ H Q, tBl K m W0 t σ H Q → tt σ H Q)
    (hi1 : ∀ m σ H Rr, tI K m W0 gs1 σ H Rr → wi1 σ H Rr) (hg1 : ∀ m v σ H Q, tGv K m vs1 gt1 v σ H Q → g1 v σ H Q) (ht1 : ∀ m σ H Q, tBl K m W0 t1 σ H Q → tt1 σ H Q) (he : ∀ m σ H Q, tD K m W0 ge σ H Q → te σ H Q)
    {σ : St} {H : Hp} {Q : VK} (h : tD K m W (eLc2Q vs vs1 gs gt t gs1 gt1 t1 ge) σ H Q) : tLc2 wi g tt wi1 g1 tt1 te vs vs1 σ H Q := by
  obtain ⟨F, ρ, r, a⟩ := h
  refine hi _ _ _ ⟨F, ρ, r, (Aft.bind a).imp fun ds ρ1 F1 H1 r1 s1 a1 J hJ Dd nd => ?_⟩
  have a1' : ∃ d ρe, lc2D vs vs1 gt t gs1 gt1 t1 ge ds [] ρ1 = .ok d ρe ∧ ∀ F' H', Rel K m F' ρe σ H' → Same F1 F' → ∀ v, Rep K F' d v → Q v H' := by
    cases e : lc2D vs vs1 gt t gs1 gt1 t1 ge ds [] ρ1 with
    | ok d ρe => rw [e] at a1; exact ⟨d, ρe, rfl, a1⟩
    | exc C ns xs ρe => rw [e] at a1; exact a1.elim
    | stuck => rw [e] at a1; exact a1.elim
  obtain ⟨dd, ρe, e0, fin⟩ := a1'
  have hD0 := f0_none r1 nd
  obtain ⟨rn, an⟩ := r1.aside_new nd (.lst [])
  refine ⟨fun i n H2 => ∃ F2 ρ2 acc xs, n = ds.length - i ∧ i ≤ ds.length ∧ Same F1 F2 ∧ Rel K m F2 (clr ρ2 vs) (wipe σ vs) H2 ∧ Aside m F2 (clr ρ2 vs) (wipe σ vs) H2 Dd (.lst xs) ∧ Reps K F2 acc xs ∧ lc2D vs vs1 gt t gs1 gt1 t1 ge (ds.drop i) acc ρ2 = .ok dd ρe,
    ⟨ds.length, F1, ρ1, [], [], by simp, Nat.zero_le _, Same.refl _, rn.clr (wipe_length _ _) (fun i hi => wipe_at hi), an.clr (fun i hi => wipe_at hi), rfl, by simpa using e0⟩, ?_⟩
  rintro i n H2 ⟨F2, ρ2, acc, xs, rfl, hi, s2, r2, a2, rx, e2⟩
  obtain ⟨j1, j2⟩ := hJ i F2 H2 s2 r2.sub
  by_cases hlt : i < ds.length
  · have hd : ds[i]? = some ds[i] := List.getElem?_eq_getElem hlt
    obtain ⟨go, yl⟩ := j1 _ hd
    rw [List.drop_eq_getElem_cons hlt] at e2
    unfold lc2D at e2
    refine .inr ⟨go, fun H' => ∃ F2 ρ2 acc xs, Same F1 F2 ∧ Rel K m F2 (clr ρ2 vs) (wipe σ vs) H' ∧ Aside m F2 (clr ρ2 vs) (wipe σ vs) H' Dd (.lst xs) ∧ Reps K F2 acc xs ∧ lc2D vs vs1 gt t gs1 gt1 t1 ge (ds.drop (i + 1)) acc ρ2 = .ok dd ρe,
      fun H' ⟨F', ρ', acc', xs', q1, q2, q3, q4, q5⟩ => ⟨ds.length - (i + 1), by omega, F', ρ', acc', xs', rfl, hlt, q1, q2, q3, q4, q5⟩, fun x H' hy => ?_⟩
    have rk := r2.aside a2
    have yl' := yl x H' hy
    obtain ⟨F3, r3, s3, q⟩ := rk.yields yl'
    cases e1 : gt ds[i] (clr ρ2 vs) with
    | none => rw [e1] at e2; cases e2
    | some ρ3 =>
      rw [e1] at e2
      dsimp only at e2
      refine hg _ _ _ _ _ ⟨F3, clr ρ2 vs, ds[i], r3, q, ?_⟩
      rw [e1]
      refine fun σ3 r4 w3 => ?_
      have w3' : wipe σ3 vs = wipe σ vs := by rw [w3, wipe_idem]
      refine ⟨w3', ht _ _ _ _ ⟨F3, ρ3, r4, ?_⟩⟩
      have hl3 : σ3.length = σ.length := by rw [← wipe_length σ3 vs, w3', wipe_length]
      have hw : ∀ i, i ∉ vs → (wipe σ vs)[i]? = σ3[i]? := fun i hi => by rw [← w3']; exact wipe_at hi
      cases et : t ρ3 with
      | stuck => rw [et] at e2; cases e2
      | exc C ns ds' ρ' => rw [et] at e2; cases e2
      | ok b ρ4 =>
        rw [et] at e2
        intro F4 H4 r5 s4
        show if b = true then _ else _
        cases b with
        | false =>
          rw [bind_ok, if_neg Bool.false_ne_true] at e2
          rw [if_neg Bool.false_ne_true]
          obtain ⟨r6, a6⟩ := r5.unaside an.he an.nb hD0
          exact ⟨F4, ρ4, acc, xs, (s2.trans s3).trans s4, r6.clr (by rw [wipe_length, hl3]) hw, a6.clr hw, Reps.mono (s3.trans s4) _ _ rx, e2⟩
        | true =>
          rw [bind_ok, if_pos rfl] at e2
          rw [if_pos rfl]
          refine hi1 _ _ _ _ ⟨F4, ρ4, r5, ?_⟩
          cases ei : gs1 ρ4 with
          | stuck => rw [ei] at e2; cases e2
          | exc C ns ds' ρ' => rw [ei] at e2; cases e2
          | ok es ρ5 =>
            rw [ei, bind_ok] at e2
            intro F5 H5 r6 s5 J1 hJ1
            obtain ⟨r7, a7⟩ := r6.unaside an.he an.nb hD0
            cases el : lcI vs1 gt1 t1 ge es acc ρ5 with
            | stuck => rw [el] at e2; cases e2
            | exc C ns ds' ρ' => rw [el] at e2; cases e2
            | ok accE ρE =>
              rw [el, bind_ok] at e2
              refine lcI_of hg1 ht1 he hJ1 hD0 r7 a7 (Reps.mono ((s3.trans s4).trans s5) _ _ rx) el fun F6 H6 xs6 s6 r8 a8 rx8 => ?_
              have hw6 : ∀ i, i ∉ vs → (wipe σ vs)[i]? = (wipe σ3 vs1)[i]? := fun i hi => by
                rw [wipe_at (fun z => hi (hv i z))]
                exact hw i hi
              exact ⟨F6, ρE, accE, xs6, (((s2.trans s3).trans s4).trans s5).trans s6, r8.clr (by rw [wipe_length, wipe_length, hl3]) hw6, a8.clr hw6, rx8, e2⟩
  · have e : i = ds.length := by omega
    subst e
    refine .inl ⟨j2 (Nat.le_refl _), ?_⟩
    rw [List.drop_length] at e2
    unfold lc2D at e2
    cases e2
    have r3 : Rel K m F2 (clr ρ2 vs) σ H2 := by
      have q := r2.clr (vs := vs) (σ' := σ) (by rw [wipe_length]) fun i hi => (wipe_at hi).symm
      rw [clr_idem] at q
      exact q
    have a3 : Aside m F2 (clr ρ2 vs) σ H2 Dd (.lst xs) := by
      have q := a2.clr (vs := vs) (σ' := σ) fun i hi => (wipe_at hi).symm
      rw [clr_idem] at q
      exact q
    obtain ⟨r4, s4⟩ := r3.freeze a3
    exact fin _ _ r4 (s2.trans s4) _ ⟨Dd, xs, rfl, upd_same .., Reps.mono s4 _ _ rx⟩
theorem d_lc2 {elt tg iter tg1 iter1 : Expr} {ifs ifs1 : List Expr} {scope : Scope} {own : List (Str × Nat)} {vs1 : List Nat} {pos : Pos} {gs gs1 : Rho → Out (List D)} {gt gt1 : D → Rho → Option Rho} {t t1 : Rho → Out Bool} {ge : Rho → Out D} (hc : X.calm = true) (hN : X.N.Nodup) (ok : BlkOk X.N X.env.scope scope own) (hv : ∀ i ∈ vs1, i ∈ own.map (·.2)) (hi : DI X m W tg iter gs)
    (hg : ∀ (m : Fm) (s : Shared) (H : Hp) (C : Addr) (cl : List (Str × Addr)) (fp : List Addr), DGv (X.blk s H scope (compEnvC scope cl C X.env) fp) m (own.map (·.2)) tg gt) (ht : ∀ (m : Fm) (s : Shared) (H : Hp) (C : Addr) (cl : List (Str × Addr)) (fp : List Addr), DTs (X.blk s H scope (compEnvC scope cl C X.env) fp) m W0 ifs t)
    (hi1 : ∀ (m : Fm) (s : Shared) (H : Hp) (C : Addr) (cl : List (Str × Addr)) (fp : List Addr), DI (X.blk s H scope (compEnvC scope cl C X.env) fp) m W0 tg1 iter1 gs1)
    (hg1 : ∀ (m : Fm) (s : Shared) (H : Hp) (C : Addr) (cl : List (Str × Addr)) (fp : List Addr), DGv (X.blk s H scope (compEnvC scope cl C X.env) fp) m vs1 tg1 gt1) (ht1 : ∀ (m : Fm) (s : Shared) (H : Hp) (C : Addr) (cl : List (Str × Addr)) (fp : List Addr), DTs (X.blk s H scope (compEnvC scope cl C X.env) fp) m W0 ifs1 t1)
    (he : ∀ (m : Fm) (s : Shared) (H : Hp) (C : Addr) (cl : List (Str × Addr)) (fp : List Addr), DE (X.blk s H scope (compEnvC scope cl C X.env) fp) m W0 elt ge) (hs : ∀ x, foldedSetIterable iter X.env x = pure x := by intro _; rfl) (hs1 : ∀ env x, foldedSetIterable iter1 env x = pure x := by intro _ _; rfl) :
    DE X m W (.ListComp elt [⟨tg, iter, ifs, 0⟩, ⟨tg1, iter1, ifs1, 0⟩] scope pos) (eLc2Q (own.map (·.2)) vs1 gs gt t gs1 gt1 t1 ge) :=
  PE.imp (pe_lc2 (vs1 := vs1) (g := fun v σ H Q => ∃ m, tGv X.K m (own.map (·.2)) gt v σ H Q) (tt := fun σ H Q => ∃ m, tBl X.K m W0 t σ H Q) (wi1 := fun σ H Rr => ∃ m, tI X.K m W0 gs1 σ H Rr) (g1 := fun v σ H Q => ∃ m, tGv X.K m vs1 gt1 v σ H Q) (tt1 := fun σ H Q => ∃ m, tBl X.K m W0 t1 σ H Q) (te := fun σ H Q => ∃ m, tD X.K m W0 ge σ H Q) hc hN hi ok hv
    (fun s H C cl fp => ⟨fun pins s' σ H' v u Q I r ⟨m, q⟩ => (hg m s H C cl fp).run pins s' σ H' v u Q I r q⟩) (fun s H C cl fp => ⟨fun pins s' σ H' Q I ⟨m, q⟩ => (ht m s H C cl fp).run pins s' σ H' Q I q⟩)
    (fun s H C cl fp => ⟨fun pins s' σ H' R I ⟨m, q⟩ => (hi1 m s H C cl fp).run pins s' σ H' R I q⟩)
    (fun s H C cl fp => ⟨fun pins s' σ H' v u Q I r ⟨m, q⟩ => (hg1 m s H C cl fp).run pins s' σ H' v u Q I r q⟩) (fun s H C cl fp => ⟨fun pins s' σ H' Q I ⟨m, q⟩ => (ht1 m s H C cl fp).run pins s' σ H' Q I q⟩)
    (fun s H C cl fp => ⟨fun pins s' σ H' Q I ⟨m, q⟩ => (he m s H C cl fp).run pins s' σ H' Q I q⟩) hs hs1) fun σ H Q h => lc2_of hv (fun _ _ _ => id) (fun m _ _ _ _ q => ⟨m, q⟩) (fun m _ _ _ q => ⟨m, q⟩) (fun m _ _ _ q => ⟨m, q⟩) (fun m _ _ _ _ q => ⟨m, q⟩) (fun m _ _ _ q => ⟨m, q⟩) (fun m _ _ _ q => ⟨m, q⟩) h
end
end Lt

/-! # sorted(list of ints), sorted(list of tuples of ints that rise) -/
namespace Lt
open PySem PySem.Spec L2
open PyProof.Rows (IsTup IntsAre keyKind' keyLt' tuples' seqObj sortedAll sortedAll_old sortedAll_at oneLt' SortKind)
theorem perm_short {α : Type} : ∀ {m l : List α}, l.Perm m → m.length ≤ 1 → l = m
  | [], _, p, _ => p.eq_nil
  | [_], _, p, _ => List.perm_singleton.mp p
  | _ :: _ :: _, _, _, h => absurd h (by simp)
/-- two lists, one a permutation of the other, both rising, one strictly -/
theorem perm_rise {α : Type} (r : α → Int) : ∀ {xs ys : List α}, ys.Perm xs → xs.Pairwise (fun x y => r x < r y) → ys.Pairwise (fun x y => r x ≤ r y) → ys = xs
  | [], ys, p, _, _ => p.eq_nil
  | x :: xs, [], p, _, _ => absurd p.length_eq (by simp)
  | x :: xs, y :: ys, p, h1, h2 => by
    obtain ⟨a1, a2⟩ := List.pairwise_cons.mp h1
    obtain ⟨b1, b2⟩ := List.pairwise_cons.mp h2
    have hx : x ∈ y :: ys := p.mem_iff.mpr List.mem_cons_self
    have hy : y ∈ x :: xs := p.mem_iff.mp List.mem_cons_self
    have e : y = x := by
      rcases List.mem_cons.mp hx with e | m
      · exact e.symm
      · rcases List.mem_cons.mp hy with e | m'
        · exact e
        · have := a1 y m'
          have := b1 x m
          omega
    subst e
    rw [perm_rise r p.cons_inv a2 b2]
section
variable {prog : Program} {w : World} {A : Around} {E : Value → Shared → Prop} {s : Shared}
theorem swo_rank {α : Type} (r : α → Int) : SrtO.Swo (fun v u : α => decide (r v < r u)) := by
  refine ⟨fun x y h => ?_, fun x y z h1 h2 => ?_⟩
  · have := of_decide_eq_true h
    exact decide_eq_false (by omega)
  · have := of_decide_eq_false h1
    have := of_decide_eq_false h2
    exact decide_eq_false (by omega)
theorem tups_sortable {a : Addr} {d : Nat} {B : Int} {vs : List Value} (hd : 1 ≤ d) (h2 : 2 ≤ vs.length) (x : TS.TupsOk s.heap d B vs) (r : Value → Int) (hr : ∀ v, v ∈ vs → ∀ ns, TS.TupInts s.heap v ns → r v = TS.code B ns) (ha : ∀ o, s.heap.get? a = some o → o.cls ≠ .type "tuple") :
    SrtO.SortableO prog w A s a vs (fun v u => decide (r v < r u)) := by
  intro h' keep
  have keep' : ∀ b o, s.heap.get? b = some o → o.cls = .type "tuple" → h'.get? b = some o := fun b o e c => keep b o (fun z => by subst z; exact ha o e c) e
  have x' := x.keeps keep'
  obtain ⟨fs, k, hl, hi⟩ := TS.firsts_of hd vs x'
  refine ⟨tuples' true, fun Q E hq => ?_, fun p q hp hq => ?_⟩
  · refine PySem.W.kat_kind (T := .type "int") k (by omega) (fun f hm => ?_) (by rfl) ?_
    · obtain ⟨y, t, rfl⟩ := hi f hm
      exact PySem.W.Looks.now
    · have e : (Value.type "int" != Value.type "tuple") = true := by first | decide +kernel | rfl | decide
      rw [e]
      exact hq
  · obtain ⟨ns, t1, l1, b1⟩ := x p.1 hp
    obtain ⟨ms, t2, l2, b2⟩ := x q.1 hq
    have e1 := hr _ hp _ t1
    have e2 := hr _ hq _ t2
    obtain ⟨a1, xs, ea1, ⟨o1, ho1, hc1, n1, hd1⟩, i1⟩ := t1.keeps keep'
    obtain ⟨a2, ys, ea2, ⟨o2, ho2, hc2, n2, hd2⟩, i2⟩ := t2.keeps keep'
    have len : xs.size = ys.size := by
      have := i1.length
      have := i2.length
      rw [← Array.length_toList, ← Array.length_toList]
      omega
    show wpAny (model prog w) A (keyLt' (tuples' true) p.1 q.1) (fun c s' => s' = { s with heap := h' } ∧ c = decide (r p.1 < r q.1)) (fun _ _ => False) { s with heap := h' }
    rw [e1, e2, ea1, ea2]
    refine PySem.W.kat_lt ho1 hd1 ho2 hd2 ?_
    rw [show decide (xs.size < ys.size) = false from decide_eq_false (by omega)]
    exact TS.lex_ints (B := B) 0 i1 i2 (by omega) b1 b2 ⟨rfl, rfl⟩
end
/-- tuples of d ints each in [0, 1000), rising; or one at most -/
def okSort (L : List (List Int)) : Prop := L.length ≤ 1 ∨ ∃ d, 1 ≤ d ∧ (∀ ns ∈ L, ns.length = d ∧ TS.Bd 1000 ns) ∧ L.Pairwise (fun x y => TS.code 1000 x < TS.code 1000 y)
def TupsAt (K : PySem.W.Frag) (H : Hp) : List V → List (List Int) → Prop
  | [], [] => True
  | x :: xs, ns :: L => (∃ t, x = .ref t ∧ SqT K H t (ns.map V.int)) ∧ TupsAt K H xs L
  | _, _ => False
def rSortTA (K : PySem.W.Frag) : List V → Hp → VK → Prop := fun vs H Q => ∃ (a : Addr) (xs : List V) (L : List (List Int)), vs = [V.ref a] ∧ SqL K H a xs ∧ TupsAt K H xs L ∧ okSort L ∧ ∀ p, H p = none → Q (.ref p) (upd H p (.lst xs))
section
variable {X : Cx} {pins : List (Addr × Obj)} {σ : St} {H : Hp} {s : Shared}
theorem tupsAt_vals (I : Inv X pins σ H s) : ∀ {xs : List V} {L : List (List Int)} {us : List Value}, TupsAt X.K H xs L → Vals xs us → us.length = L.length ∧ L.map id = us.map (TS.intsOf s.heap) ∧ ∀ u ∈ us, ∃ ns ∈ L, TS.TupInts s.heap u ns
  | [], [], us, _, r => by cases r; exact ⟨rfl, rfl, fun u h => by cases h⟩
  | x :: xs, ns :: L, us, ⟨⟨t, e, ht⟩, h⟩, r => by
    subst e
    cases r with
    | cons r1 r2 =>
      rename_i u us
      obtain ⟨h1, h2, h3⟩ := tupsAt_vals I h r2
      obtain rfl : u = Value.ref t := r1
      have ti := tupI_raw I ht
      refine ⟨by simp [h1], ?_, fun v hv => ?_⟩
      · rw [List.map_cons, List.map_cons, h2, ti.ints]
        rfl
      · rcases List.mem_cons.mp hv with rfl | hv
        · exact ⟨ns, List.mem_cons_self, ti⟩
        · obtain ⟨m, k1, k2⟩ := h3 v hv
          exact ⟨m, List.mem_cons_of_mem _ k1, k2⟩
  | [], _ :: _, _, h, _ => h.elim
  | _ :: _, [], _, h, _ => h.elim
theorem cr_sortedTA : CallR X (.builtin "sorted") (rSortTA X.K) := by
  intro pins s σ H vs us Q I r h
  obtain ⟨a, xs, L, rfl, hs, ht, ok, q⟩ := h
  obtain ⟨its, rv, hl, hz⟩ := I.list hs
  rw [Vals.ref1 r]
  obtain ⟨e1, e2, e3⟩ := tupsAt_vals I ht rv
  rw [List.map_id] at e2
  refine SrtO.sorted_ord (swo_rank fun v => TS.code 1000 (TS.intsOf s.heap v)) hl.isList (by rw [← rv.length]; exact hz) (fun h2 h₁ a' ha kk => ?_) fun out h1 h2 => ?_
  · rcases ok with ok | ⟨d, d1, hd, asc⟩
    · omega
    · have x : TS.TupsOk s.heap d 1000 its := fun v hv => by
        obtain ⟨ns, m, t⟩ := e3 v hv
        exact ⟨ns, t, hd ns m⟩
      refine tups_sortable (s := { s with heap := h₁ }) d1 h2 (x.keeps fun b o e _ => (kk b o e).2) _ (fun v hv ns t => ?_) fun o e => ?_
      · obtain ⟨ms, _, t2⟩ := e3 v hv
        have k1 := (t2.keeps (h' := h₁) fun b o e _ => (kk b o e).2).ints
        rw [← t.ints, k1, t2.ints]
      · have e' : some o = some (seqObj "list" its.toArray 0) := e.symm.trans ha
        cases e'
        intro c
        exact absurd (Value.type.inj c) (by decide)
  · have eo : out = its := by
      rcases ok with ok | ⟨d, d1, hd, asc⟩
      · have hp := h2.perm
        have hle : its.length ≤ 1 := by omega
        exact perm_short hp hle
      · refine perm_rise (fun v => TS.code 1000 (TS.intsOf s.heap v)) h2.perm ?_ (h1.imp fun {u v} z => by have := of_decide_eq_false z; omega)
        rw [e2, List.pairwise_map] at asc
        exact asc
    subst eo
    obtain ⟨ep, he'⟩ := sortedAll_at s.heap out out.toArray
    refine ⟨.ref _, upd H (s.heap.objs.size + 1) (.lst xs), I.laid (t' := s.toks) (fun _ _ => sortedAll_old) (Nat.le_succ _) ⟨hz, out, ep, rv, he'⟩, rfl, q _ (I.hok.fresh (Nat.le_succ _))⟩
end
/-! ### on data -/
def asTups : List D → Option (List (List Int))
  | [] => some []
  | .tup xs :: r => match asInts xs, asTups r with
    | some ns, some L => some (ns :: L)
    | _, _ => none
  | _ => none
theorem asTups_map : ∀ L : List (List Int), asTups (L.map fun ns => .tup (ns.map .int)) = some L
  | [] => rfl
  | ns :: L => by rw [List.map_cons, asTups, asInts_map, asTups_map L]
theorem tupsAt_of {K : PySem.W.Frag} {m : Fm} {F H : Hp} {ρ : Rho} {σ : St} (r : Rel K m F ρ σ H) : ∀ {ds : List D} {L : List (List Int)} {xs : List V}, asTups ds = some L → Reps K F ds xs → TupsAt K H xs L
  | [], L, xs, e, h => by cases e; cases (show xs = [] from h); trivial
  | d :: ds, L, xs, e, h => by
    unfold asTups at e
    split at e
    · cases ‹_ = []›
    · rename_i ys r' heq
      injection heq with q1 q2
      subst q1; subst q2
      split at e
      · rename_i ns L' g1 g2
        cases e
        obtain ⟨x, t, rfl, h1, h2⟩ := h
        obtain ⟨a, zs, rfl, k1, k2⟩ := r.tupOf h1
        rw [asInts_is g1] at k2
        rw [k2.ints] at k1
        exact ⟨⟨a, rfl, k1⟩, tupsAt_of r g2 h2⟩
      · cases e
    · cases e
def insI (n : Int) : List Int → List Int
  | [] => [n]
  | m :: r => if n ≤ m then n :: m :: r else m :: insI n r
def isort : List Int → List Int
  | [] => []
  | n :: r => insI n (isort r)
theorem insI_perm (n : Int) : ∀ l, (insI n l).Perm (n :: l)
  | [] => List.Perm.refl _
  | m :: r => by
    unfold insI
    split
    · exact List.Perm.refl _
    · exact (List.Perm.cons m (insI_perm n r)).trans (List.Perm.swap n m r)
theorem isort_perm : ∀ l, (isort l).Perm l
  | [] => List.Perm.refl _
  | n :: r => (insI_perm n _).trans (List.Perm.cons n (isort_perm r))
theorem insI_rise (n : Int) : ∀ {l : List Int}, l.Pairwise (· ≤ ·) → (insI n l).Pairwise (· ≤ ·)
  | [], _ => List.pairwise_singleton _ _
  | m :: r, h => by
    obtain ⟨h1, h2⟩ := List.pairwise_cons.mp h
    unfold insI
    split
    · rename_i c
      refine List.pairwise_cons.mpr ⟨fun y hy => ?_, h⟩
      rcases List.mem_cons.mp hy with rfl | hy
      · exact c
      · exact Int.le_trans c (h1 y hy)
    · rename_i c
      refine List.pairwise_cons.mpr ⟨fun y hy => ?_, insI_rise n h2⟩
      rcases List.mem_cons.mp ((insI_perm n r).mem_iff.mp hy) with rfl | hy
      · omega
      · exact h1 y hy
theorem isort_rise : ∀ l, (isort l).Pairwise (· ≤ ·)
  | [] => List.Pairwise.nil
  | n :: r => insI_rise n (isort_rise r)
theorem rise_uniq : ∀ {xs ys : List Int}, ys.Perm xs → xs.Pairwise (· ≤ ·) → ys.Pairwise (· ≤ ·) → ys = xs
  | [], ys, p, _, _ => p.eq_nil
  | x :: xs, [], p, _, _ => absurd p.length_eq (by simp)
  | x :: xs, y :: ys, p, h1, h2 => by
    obtain ⟨a1, a2⟩ := List.pairwise_cons.mp h1
    obtain ⟨b1, b2⟩ := List.pairwise_cons.mp h2
    have hx : x ∈ y :: ys := p.mem_iff.mpr List.mem_cons_self
    have hy : y ∈ x :: xs := p.mem_iff.mp List.mem_cons_self
    have e : y = x := by
      rcases List.mem_cons.mp hx with e | m
      · exact e.symm
      · rcases List.mem_cons.mp hy with e | m'
        · exact e
        · have := a1 y m'
          have := b1 x m
          omega
    subst e
    rw [rise_uniq p.cons_inv a2 b2]
open Classical in
noncomputable def sortedD : List D → Option D
  | [.lst ds] => match asInts ds with
    | some ns => some (.lst ((isort ns).map .int))
    | none => match asTups ds with
      | some L => if okSort L then some (.lst ds) else none
      | none => none
  | _ => none
theorem sorted_ints (ns : List Int) : sortedD [.lst (ns.map .int)] = some (.lst ((isort ns).map .int)) := by
  simp only [sortedD, asInts_map]
theorem sorted_tups {ns : List Int} {L : List (List Int)} (h : okSort (ns :: L)) : sortedD [.lst ((ns :: L).map fun ns => .tup (ns.map .int))] = some (.lst ((ns :: L).map fun ns => .tup (ns.map .int))) := by
  have e := asTups_map (ns :: L)
  simp only [List.map_cons] at e ⊢
  simp only [sortedD, asInts, e]
  rw [if_pos h]
theorem cr_sortedD {X : Cx} : CallR X (.builtin "sorted") (fun vs H Q => rSortedI X.K vs H Q ∨ rSortTA X.K vs H Q) := CallR.or' cr_sortedI cr_sortedTA
theorem cd_sortedD {K : PySem.W.Frag} {m : Fm} {W : WX} : CallD K m W sortedD (fun vs H Q => rSortedI K vs H Q ∨ rSortTA K vs H Q) := by
  intro F ρ σ H as xs Q r ha h
  obtain ⟨d, hd, h9⟩ := Aft.lift h
  clear h
  unfold sortedD at hd
  split at hd <;> try cases hd
  rename_i ds
  obtain ⟨x, rfl, q⟩ := ha.one'
  obtain ⟨p, vs, rfl, h1, h2⟩ := r.lstOf q
  split at hd
  · rename_i ns e
    cases hd
    have e1 := asInts_is e
    rw [e1] at h2
    have e2 := h2.ints
    subst e2
    refine .inl ⟨p, ns, rfl, SqL.of h1, fun ns' l hp hr hn => ?_⟩
    have e3 : ns' = isort ns := rise_uniq (hp.trans (isort_perm ns).symm) (isort_rise ns) hr
    rw [e3]
    exact new_lst r h9 (Reps.of_ints _) hn
  · split at hd
    · rename_i L e
      split at hd
      · rename_i ok
        cases hd
        exact .inr ⟨p, vs, L, rfl, SqL.of h1, tupsAt_of r e h2, ok, fun l hn => new_lst r h9 h2 hn⟩
      · cases hd
    · cases hd
end Lt

/-! # xs.remove(k), list(range(a, b)) -/
namespace Lt
open PySem PySem.Spec L2
def idxI (k : Int) : List Int → Option Nat
  | [] => none
  | n :: r => if n = k then some 0 else (idxI k r).map (· + 1)
theorem idxI_spec {k : Int} : ∀ {ns : List Int} {j : Nat}, idxI k ns = some j → ns[j]? = some k ∧ ∀ m : Nat, m < j → ns[m]? ≠ some k
  | [], j, h => by cases h
  | n :: r, j, h => by
    unfold idxI at h
    split at h
    · rename_i e
      cases h
      subst e
      exact ⟨rfl, fun m hm => absurd hm (Nat.not_lt_zero _)⟩
    · rename_i e
      obtain ⟨i, hi, rfl⟩ := Option.map_eq_some_iff.mp h
      obtain ⟨h1, h2⟩ := idxI_spec hi
      refine ⟨by simpa using h1, fun m hm => ?_⟩
      cases m with
      | zero => simpa using e
      | succ m => simpa using h2 m (by omega)
theorem idxI_some {k : Int} : ∀ {ns : List Int}, k ∈ ns → ∃ j, idxI k ns = some j
  | [], h => by cases h
  | n :: r, h => by
    unfold idxI
    by_cases e : n = k
    · exact ⟨0, if_pos e⟩
    · rw [if_neg e]
      obtain ⟨j, hj⟩ := idxI_some ((List.mem_cons.mp h).resolve_left (Ne.symm e))
      exact ⟨j + 1, by rw [hj]; rfl⟩
def remI (d : D) (ds : List D) : Option (List D) := match d, asInts ds with
  | .int k, some ns => (idxI k ns).map fun j => (ns.eraseIdx j).map .int
  | _, _ => none
def sRemove (i : Nat) (g : Rho → Out D) : Rho → Fl := fun ρ => match lstAt i ρ with
  | none => .stuck
  | some _ => (g ρ).fl fun d ρ1 => match lstAt i ρ1 with
    | some ds => match remI d ds with
      | some es => .nx (setO i (.lst es) ρ1)
      | none => .stuck
    | none => .stuck
section
variable {X : Cx} {m : Fm} {W : WX}
theorem s_remove {i : Nat} {x : Str} {e : Expr} {g : Rho → Out D} {p apos cpos pos : Pos} (he : DE X m W e g) (hN : X.N[i]? = some x := by rfl) (hv : Vis X.env.scope x := by first | exact Or.inl rfl | exact Or.inr (Or.inl rfl) | exact Or.inr (Or.inr rfl)) (hd : (x == ("__debug__" : Str)) = false := by decide)
    (hcd : (x == ("__classdict__" : Str)) = false := by decide) (hst : starEach [e] X.env = (false, eval e X.env) :: starEach [] X.env := by rfl) (hsw : swapsWith (.Call (.Attribute (.Name x p) "remove" apos) [e] [] cpos) none pos.line X.env = pure false := by rfl)
    (hbase : attributeBase (.Name x p) "remove" X.env (eval (.Name x p) X.env) = eval (.Name x p) X.env := by rfl)
    (hfew : ((backTo cpos (starEach (e :: []) X.env)).all (fun x => !x.1) && (backToKw cpos (keywordEach [] X.env)).all (fun x => x.1.isSome) && decide ((e :: []).length + ([] : List Keyword).length + (if ([] : List Keyword).isEmpty then 0 else 1) < 30)) = true := by rfl)
    (hline : (apos.endLine == cpos.line) = true := by rfl) (hpl : (backTo cpos (starEach [] X.env)).any (·.1) = false := by rfl) :
    DS X m W (.Expr (.Call (.Attribute (.Name x p) "remove" apos) [e] [] cpos) pos) (sRemove i g) := PS.imp (ps_expr (pe_bm PySem.F.plainAttrs_list PySem.F.slot_list_remove PySem.F.type_list_remove mt_remove (pv i hN hv hd hcd) (pa_cons he pa_nil hst) hbase hfew hline hst hpl) hsw) fun Dn σ H h => by
  obtain ⟨F, ρ, r, a⟩ := h
  unfold sRemove at a
  cases e1 : lstAt i ρ with
  | none => rw [e1] at a; exact a.elim
  | some ds =>
    rw [e1] at a
    obtain ⟨c, xs, q1, q2, q3, _⟩ := r.lstOwn e1
    refine ⟨_, q1, .inl ⟨rfl, xs, SqL.of q2⟩, F, ρ, r, (Aft.fl a).imp fun d ρ1 F1 H1 r1 s1 a1 v rv => ?_⟩
    cases e2 : lstAt i ρ1 with
    | none => rw [e2] at a1; exact a1.elim
    | some es =>
      rw [e2] at a1
      dsimp only at a1
      cases e3 : remI d es with
      | none => rw [e3] at a1; exact a1.elim
      | some fs =>
        rw [e3] at a1
        unfold remI at e3
        split at e3
        · rename_i k ns hn
          obtain ⟨j, hj, rfl⟩ := Option.map_eq_some_iff.mp e3
          have ee := asInts_is hn
          subst ee
          obtain ⟨c', ys, p1, p2, p3, p4⟩ := r1.lstOwn e2
          rw [q1] at p1
          cases p1
          have ev := p3.ints
          subst ev
          obtain ⟨g1, g2⟩ := idxI_spec hj
          have : v = .int k := rv
          subst this
          exact ⟨c, ns, k, j, rfl, rfl, p2, g1, g2, a1 F1 σ _ (p4 _ _ (Reps.of_ints _)) (Same.refl _)⟩
        · cases e3
/-- list(range(a, b)) -/
def eLRng (ga gb : Rho → Out D) : Rho → Out D := fun ρ => (ga ρ).bind fun a ρ1 => (gb ρ1).bind fun b ρ2 => match a, b with
  | .int a, .int b => if (-100000 ≤ a ∧ a ≤ 100000) ∧ -100000 ≤ b ∧ b ≤ 100000 then .ok (.lst (iRange a b)) ρ2 else .stuck
  | _, _ => .stuck
theorem rgV_iRange {K : PySem.W.Frag} {F : Hp} (a b : Int) : Reps K F (iRange a b) (rgV a b) := by
  rw [iRange_rng]
  have e : rgV a b = (rng a b).map V.int := by
    unfold rgV rng
    rw [List.map_map]
    rfl
  rw [e]
  exact Reps.of_ints _
theorem rgOk_small {a b : Int} (h1 : -100000 ≤ a ∧ a ≤ 100000) (h2 : -100000 ≤ b ∧ b ≤ 100000) : RgOk a b := by
  have p : (200000 : Int) < 2 ^ 62 := by decide
  have q : (200000 : Nat) ≤ 2 ^ 24 := by decide
  unfold RgOk
  generalize (2 : Int) ^ 62 = B at *
  generalize (2 : Nat) ^ 24 = C at *
  refine ⟨by omega, by omega, by omega, by omega, by omega⟩
theorem d_listRg {a b : Expr} {ga gb : Rho → Out D} {p p2 pos pos2 : Pos} (hm : X.mg "list" = none) (hm2 : X.mg "range" = none) (ha : DE X m W a ga) (hb : DE X m W b gb) (hc : X.calm = true := by rfl) (hg : Gl X "list" := by rfl) (hg2 : Gl X "range" := by rfl)
    (na : starEach [a, b] X.env = (false, eval a X.env) :: starEach [b] X.env := by rfl) (nb : starEach [b] X.env = (false, eval b X.env) :: starEach [] X.env := by rfl) (hp : (backTo pos (starEach [b] X.env)).any (·.1) = false := by rfl)
    (ne : starEach [.Call (.Name "range" p) [a, b] [] pos] X.env = (false, eval (.Call (.Name "range" p) [a, b] [] pos) X.env) :: starEach [] X.env := by rfl) :
    DE X m W (.Call (.Name "list" p2) [.Call (.Name "range" p) [a, b] [] pos] [] pos2) (eLRng ga gb) := PE.imp (pe_listRg hc hg hm (prg_2 hg2 hm2 ha hb na nb hp) ne) fun σ H Q h => by
  obtain ⟨F, ρ, r, q⟩ := h
  refine ⟨F, ρ, r, (Aft.bind q).imp fun d ρ1 F1 H1 r1 s1 a1 v rv => ⟨F1, ρ1, r1, (Aft.bind a1).imp fun e ρ2 F2 H2 r2 s2 a2 u ru => ?_⟩⟩
  split at a2
  · rename_i x y
    have e1 : v = .int x := rv
    have e2 : u = .int y := ru
    subst e1; subst e2
    split at a2
    · rename_i hz
      exact ⟨x, y, rfl, rfl, rgOk_small hz.1 hz.2, fun l hn => new_lst r2 a2 (rgV_iRange x y) hn⟩
    · exact a2.elim
  · exact a2.elim
end
section
variable {ρ : Rho} {i : Nat} {g ga gb : Rho → Out D}
def rmK (o : Option (List D)) (i : Nat) (ρ : Rho) : Fl := match o with
  | some es => .nx (setO i (.lst es) ρ)
  | none => .stuck
@[simp] theorem rd_rmS {es : List D} : rmK (some es) i ρ = .nx (setO i (.lst es) ρ) := (rfl)
@[simp] theorem rd_remove : sRemove i g ρ = match lstAt i ρ with
  | none => .stuck
  | some _ => (g ρ).fl fun d ρ1 => match lstAt i ρ1 with
    | some ds => rmK (remI d ds) i ρ1
    | none => .stuck := (rfl)
theorem rd_lrng {a b : Int} (h1 : -100000 ≤ a ∧ a ≤ 100000) (h2 : -100000 ≤ b ∧ b ≤ 100000) {ρ1 ρ2 : Rho} (ea : ga ρ = .ok (.int a) ρ1) (eb : gb ρ1 = .ok (.int b) ρ2) : eLRng ga gb ρ = .ok (.lst ((rng a b).map .int)) ρ2 := by
  unfold eLRng
  rw [ea, bind_ok, eb, bind_ok]
  dsimp only
  rw [if_pos ⟨h1, h2⟩, iRange_rng]
end
def bL (i : Int) : Prop := -100000 ≤ i ∧ i ≤ 100000
noncomputable instance (i : Int) : Decidable (bL i) := Classical.propDecidable _
noncomputable def lrngK (a b : D) (ρ : Rho) : Out D := match a, b with
  | .int a, .int b => if bL a ∧ bL b then .ok (.lst ((rng a b).map .int)) ρ else .stuck
  | _, _ => .stuck
theorem rd_lrngB {ga gb : Rho → Out D} {ρ : Rho} : eLRng ga gb ρ = (ga ρ).bind fun a ρ1 => (gb ρ1).bind fun b ρ2 => lrngK a b ρ2 := by
  unfold eLRng
  congr 1
  funext a ρ1
  congr 1
  funext b ρ2
  unfold lrngK
  cases a <;> cases b <;> try rfl
  rename_i a b
  dsimp only
  rw [iRange_rng]
  by_cases h : (-100000 ≤ a ∧ a ≤ 100000) ∧ -100000 ≤ b ∧ b ≤ 100000
  · rw [if_pos h, if_pos (show bL a ∧ bL b from ⟨h.1, h.2⟩)]
  · rw [if_neg h, if_neg (fun z : bL a ∧ bL b => h ⟨z.1, z.2⟩)]
theorem rd_lrngK {a b : Int} {ρ : Rho} : lrngK (.int a) (.int b) ρ = if bL a ∧ bL b then .ok (.lst ((rng a b).map .int)) ρ else .stuck := (rfl)
end Lt

/-! # sorted(set(t)), t a tuple of ints -/
namespace Lt
open PySem PySem.Spec L2
def insS (n : Int) : List Int → List Int
  | [] => [n]
  | m :: r => if n < m then n :: m :: r else if n = m then m :: r else m :: insS n r
def setI : List Int → List Int
  | [] => []
  | n :: r => insS n (setI r)
theorem insS_mem (n : Int) : ∀ {l : List Int} {k : Int}, k ∈ insS n l ↔ k = n ∨ k ∈ l
  | [], k => by simp [insS]
  | m :: r, k => by
    unfold insS
    split
    · simp
    · split
      · rename_i e
        subst e
        simp
      · rw [List.mem_cons, insS_mem n (l := r), List.mem_cons]
        constructor <;> intro h <;> rcases h with h | h | h <;> simp [h]
theorem insS_rise (n : Int) : ∀ {l : List Int}, l.Pairwise (· < ·) → (insS n l).Pairwise (· < ·)
  | [], _ => List.pairwise_singleton _ _
  | m :: r, h => by
    obtain ⟨h1, h2⟩ := List.pairwise_cons.mp h
    unfold insS
    split
    · rename_i c
      refine List.pairwise_cons.mpr ⟨fun y hy => ?_, h⟩
      rcases List.mem_cons.mp hy with rfl | hy
      · exact c
      · exact Int.lt_trans c (h1 y hy)
    · split
      · exact h
      · rename_i c c2
        refine List.pairwise_cons.mpr ⟨fun y hy => ?_, insS_rise n h2⟩
        rcases (insS_mem n).mp hy with rfl | hy
        · omega
        · exact h1 y hy
theorem setI_mem : ∀ {l : List Int} {k : Int}, k ∈ setI l ↔ k ∈ l
  | [], k => by simp [setI]
  | n :: r, k => by rw [setI, insS_mem, setI_mem, List.mem_cons]
theorem setI_rise : ∀ l : List Int, (setI l).Pairwise (· < ·)
  | [] => List.Pairwise.nil
  | n :: r => by rw [setI]; exact insS_rise n (setI_rise r)
theorem nodup_of_rise {l : List Int} (h : l.Pairwise (· < ·)) : l.Nodup := h.imp fun {a b} z => by omega
theorem set_uniq {ns out : List Int} (h : out.Pairwise (· < ·)) (hm : ∀ k, k ∈ out ↔ k ∈ ns) : out = setI ns := by
  refine rise_uniq ?_ ((setI_rise ns).imp fun {a b} z => by omega) (h.imp fun {a b} z => by omega)
  rw [List.perm_ext_iff_of_nodup (nodup_of_rise h) (nodup_of_rise (setI_rise ns))]
  intro k
  rw [hm, setI_mem]
def rSetTI (K : PySem.W.Frag) (w : World) : List V → Hp → VK → Prop := fun vs H Q => ∃ (p : Addr) (ns : List Int), vs = [.ref p] ∧ SqT K H p (ns.map V.int) ∧ ns.length ≤ 60 ∧ ∀ a c, H a = none → c ≤ ns.length → Q (.ref a) (upd H a (SetO w a (fun j => decide (j ∈ ns)) c))
theorem cr_setTI {X : Cx} (hc : X.calm = true) : CallR X (.type "set") (rSetTI X.K X.w) := by
  intro pins s σ H vs us Q I r h
  obtain ⟨p, ns, rfl, hq, hl, q⟩ := h
  rw [Vals.ref1 r]
  obtain ⟨its, rv, pt, hz⟩ := I.tuple hq
  have hi : PyProof.Rows.IntsAre its.toArray.toList ns := ints_of_vals rv
  refine call_set_tupI ns (I.ok.hd hc) (show s.heap.IsTuple p its.toArray from pt) hi (by unfold scanBound; omega) fun h' tk c R1 hcn k => ?_
  exact ⟨.ref _, upd H s.heap.objs.size (SetO X.w s.heap.objs.size (fun j => decide (j ∈ ns)) c), I.laid (t' := tk) k (Nat.le_refl _) (setO_new R1), rfl, q _ c (I.hok.fresh (Nat.le_refl _)) hcn⟩
open Classical in
noncomputable def sortSetD : D → Option D
  | .tup ds => match asInts ds with
    | some ns => if ns.length ≤ 60 then some (.lst ((setI ns).map .int)) else none
    | none => none
  | _ => none
theorem rd_sortSet {ns : List Int} (h : ns.length ≤ 60) : sortSetD (.tup (ns.map .int)) = some (.lst ((setI ns).map .int)) := by
  unfold sortSetD
  dsimp only
  rw [asInts_map]
  exact if_pos h
theorem d_sortSet {X : Cx} {m : Fm} {W : WX} {e : Expr} {g : Rho → Out D} {p p2 pos pos2 : Pos} (hm : X.mg "sorted" = none) (hm2 : X.mg "set" = none) (he : DE X m W e g) (hc : X.calm = true := by rfl) (hg : Gl X "sorted" := by rfl) (hg2 : Gl X "set" := by rfl)
    (na : starEach [e] X.env = (false, eval e X.env) :: starEach [] X.env := by rfl) (hp : (backTo pos (starEach [] X.env)).any (·.1) = false := by rfl)
    (ne : starEach [.Call (.Name "set" p) [e] [] pos] X.env = (false, eval (.Call (.Name "set" p) [e] [] pos) X.env) :: starEach [] X.env := by rfl) (hp2 : (backTo pos2 (starEach [] X.env)).any (·.1) = false := by rfl) :
    DE X m W (.Call (.Name "sorted" p2) [.Call (.Name "set" p) [e] [] pos] [] pos2) (eUn sortSetD g) :=
  PE.imp (pe_callB (cr_sortedSet hc) hg hm (by rfl) (pa_cons (pe_callTy (cr_setTI hc) hg2 hm2 PyProof.Rows.boot_set (pa_cons he pa_nil na) (by decide) (by decide) na hp) pa_nil ne) (by decide) (by decide) ne hp2) fun σ H Q h => by
    obtain ⟨F, ρ, r, a⟩ := h
    refine ⟨F, ρ, r, (Aft.bind a).imp fun d ρ1 F1 H1 r1 s1 a1 v rv => ?_⟩
    obtain ⟨d2, e1, h9⟩ := Aft.lift a1
    unfold sortSetD at e1
    split at e1 <;> try cases e1
    rename_i ds
    split at e1 <;> try cases e1
    rename_i ns en
    split at e1 <;> try cases e1
    rename_i hl
    obtain ⟨x, xs, rfl, h1, h2⟩ := r1.tupOf rv
    have e2 := asInts_is en
    subst e2
    have e3 := h2.ints
    subst e3
    refine ⟨x, ns, rfl, h1, hl, fun p c hn hcl => ?_⟩
    obtain ⟨r2, a2⟩ := r1.aside_new hn (SetO X.w p (fun j => decide (j ∈ ns)) c)
    refine ⟨p, _, c, rfl, upd_same, by omega, fun out q hr hmem hlen hq => ?_⟩
    have eo : out = setI ns := set_uniq hr fun k => by rw [hmem, decide_eq_true_eq]
    subst eo
    exact new_lst r2 (fun F' H' => h9 F' H') (Reps.of_ints _) hq
end Lt

/-! # Properties; dict == dict -/
namespace Lt
open PySem PySem.Spec L2
/-! ### a property that hands back a field -/
structure PrpC (P : Program) (w : World) (K : PySem.W.Frag) (mg : Str → Option Value) (base : Heap) (C : Addr) (f fld : Str) (k : Nat) : Prop where
  ex : ∃ p g fd, PropOf K C f p g ∧ Binds K fd ["self"] [] ∧ FnOk P w K mg base (L2.CX P w) k g fd ["self"] (getSp C fld)
theorem cx_false {X : Cx} : Passes (L2.CX X.prog X.w) X.nox (fun _ _ _ => False) := fun pins σ H s e s' I h => by
  obtain ⟨a, B, H', cls, d, _, _, _, _, _, _, _, z⟩ := h
  exact z.elim
theorem d_prop {X : Cx} {m : Fm} {W : WX} {C : Addr} {k j : Nat} {e : Expr} {f fld : Str} {g : Rho → Out D} {pos : Pos} (c : Cls X.K C) (pr : PrpC X.prog X.w X.K X.mg X.base C f fld k) (hr : Room j X.A) (he : DE X m W e g) (hk : k + 1 ≤ j := by decide) (hb : attributeBase e f X.env (eval e X.env) = eval e X.env := by rfl) :
    DE X m W (.Attribute e f pos) (eUn (fldD C fld) g) := by
  obtain ⟨p, gf, fd, h1, h2, h3⟩ := pr.ex
  refine PE.imp (pe_prop (dvs := []) (ds := []) he c h1 h3 (hr.mono hk) h2 .nil cx_false hb) fun σ H Q q => ?_
  obtain ⟨F, ρ, r, a⟩ := q
  refine ⟨F, ρ, r, (Aft.bind a).imp fun d ρ1 F1 H1 r1 s1 a1 v rv => ?_⟩
  obtain ⟨z, e, q⟩ := Aft.lift a1
  unfold fldD at e
  split at e
  · rename_i C' ns ds
    split at e
    · rename_i hC
      subst hC
      obtain ⟨p, dx, gs, rfl, h1, h2, h3⟩ := rv
      subst h2
      obtain ⟨y, l, ry⟩ := lookup_rep h3 e
      exact ⟨p, dx, gs, rfl, r1.sub _ _ h1, p, dx, gs, y, rfl, r1.sub _ _ h1, l, q F1 H1 r1 (Same.refl _) _ ry⟩
    · cases e
  · cases e
/-! ### dict == dict -/
def eqKVgo (ld : List (Key × D)) : List (Key × D) → Bool
  | [] => true
  | (k, d) :: r => match valD ld k with
    | none => false
    | some e => eqB d e && eqKVgo ld r
def eqKV (kd ld : List (Key × D)) : Bool := (kd.length == ld.length) && eqKVgo ld kd
def okKV (kd : List (Key × D)) : Prop := ∀ p ∈ kd, okP p.2 = true
theorem valD_none {κ : Type} [DecidableEq κ] {K : PySem.W.Frag} {F : Hp} {k : κ} : ∀ {xs : List (κ × D)} {ys : List (κ × V)}, RepKV K F xs ys → valD xs k = none → valV ys k = none
  | [], _, h, e => by cases (show _ = [] from h); rfl
  | (k', d') :: r, ys, h, e => by
    obtain ⟨v, t, e1, h1, h2⟩ := (show ∃ v t, ys = (k', v) :: t ∧ Rep K F d' v ∧ RepKV K F r t from h)
    subst e1
    by_cases c : k' = k
    · simp [valD, c] at e
    · have e' : valD r k = none := by simpa [valD, c] using e
      rw [valV_neg (p := (k', v)) c]
      exact valD_none h2 e'
theorem valD_mem {κ : Type} [DecidableEq κ] {k : κ} {d : D} {xs : List (κ × D)} (h : valD xs k = some d) : ∃ p ∈ xs, p.2 = d := by
  unfold valD at h
  obtain ⟨p, hp, rfl⟩ := Option.map_eq_some_iff.mp h
  exact ⟨p, List.mem_of_find?_eq_some hp, rfl⟩
section
variable {X : Cx} {pins : List (Addr × Obj)} {σ : St} {H F : Hp} {s : Shared}
theorem eqB_run (I : Inv X pins σ H s) (sub : Same F H) {A : Around} (hu : A.units + 64 < cLine) {d e : D} {x y : V} {v u : Value} (od : okP d = true) (oe : okP e = true) (rd : Rep X.K F d x) (re : Rep X.K F e y) (rx : RelV x v) (ry : RelV y u) : SeqAt.EqP X.prog X.w A s v u (eqB d e) := by
  obtain ⟨as, r1⟩ := Dp.reads I (toP d) x v (dp_of _ _ (SeqAt.canLay_of_shaped od) (Rep.mono sub _ _ rd)) rx
  obtain ⟨bs, r2⟩ := Dp.reads I (toP e) y u (dp_of _ _ (SeqAt.canLay_of_shaped oe) (Rep.mono sub _ _ re)) ry
  exact (SeqAt.eqAt_reads (toP d) (toP e) A s v u as bs r1 r2 (SeqAt.canLay_of_shaped od) (SeqAt.canLay_of_shaped oe) (SeqAt.room_of_shaped od hu)).eqP
theorem hitsD (I : Inv X pins σ H s) (sub : Same F H) {A : Around} (hu : A.units + 64 < cLine) {ld : List (Key × D)} {ls : List (Key × V)} {vb : List (Key × Value)} (ol : okKV ld) (rl : RepKV X.K F ld ls) (rb : KV ls vb) :
    ∀ {kd : List (Key × D)} {ks : List (Key × V)} {va : List (Key × Value)}, okKV kd → RepKV X.K F kd ks → KV ks va → PySem.W.KeqHitsP X.prog X.w A s vb va (eqKVgo ld kd)
  | [], _, va, _, h, ra => by
    cases (show _ = [] from h)
    unfold KV at ra
    cases ra
    exact .nil
  | (k, d) :: r, ks, va, ok, h, ra => by
    obtain ⟨x, t, e1, h1, h2⟩ := (show ∃ v t, ks = (k, v) :: t ∧ Rep X.K F d v ∧ RepKV X.K F r t from h)
    subst e1
    unfold KV at ra
    cases ra with
    | @cons _ q _ qs hq tq =>
      obtain ⟨key, v⟩ := q
      obtain ⟨hk, hv⟩ := hq
      have hk' : k = key := hk
      subst hk'
      have ih := hitsD I sub hu ol rl rb (kd := r) (ks := t) (va := qs) (fun p hp => ok p (List.mem_cons_of_mem _ hp)) h2 tq
      unfold eqKVgo
      cases e : valD ld k with
      | none =>
        have z := valD_none rl e
        have rr : RelO (valV ls k) (valueAt vb k) := rb.val k
        rw [z] at rr
        exact .miss (by cases hz : valueAt vb k with | none => rfl | some y => rw [hz] at rr; exact rr.elim)
      | some dd =>
        obtain ⟨y, hy, ry⟩ := rl.val e
        have rr : RelO (some y) (valueAt vb k) := by rw [← hy]; exact rb.val k
        obtain ⟨u, hu', ru⟩ := rr.some_of
        obtain ⟨p, hp, ep⟩ := valD_mem e
        have od : okP d = true := ok (k, d) List.mem_cons_self
        have oe : okP dd = true := by rw [← ep]; exact ol p hp
        exact .hit hu' (eqB_run I sub hu od oe h1 ry hv ru) ih
end
def rEqK (K : PySem.W.Frag) : R2 := fun x y H Q => ∃ (a b : Addr) (F : Hp) (kd ld : List (Key × D)) (ks ls : List (Key × V)), x = .ref a ∧ y = .ref b ∧ Same F H ∧ H a = some (.dK ks) ∧ H b = some (.dK ls) ∧ RepKV K F kd ks ∧ RepKV K F ld ls ∧ okKV kd ∧ okKV ld ∧ Q (.bl (eqKV kd ld)) H
theorem op_eqK {X : Cx} (hu : X.A.units + 70 < cLine) : OpR X (compareOp .Eq) (rEqK X.K) := by
  intro pins s σ H x y v u Q I rx ry h
  obtain ⟨a, b, F, kd, ld, ks, ls, rfl, rfl, sub, ha, hb, ra, rb, ok, ol, q⟩ := h
  cases (show v = Value.ref a from rx)
  cases (show u = Value.ref b from ry)
  obtain ⟨_, ya, va, qa, da⟩ := (show ObjOk X.prog X.w H s.heap a (.dK ks) from I.hok a _ ha)
  obtain ⟨_, yb, vb, qb, db⟩ := (show ObjOk X.prog X.w H s.heap b (.dK ls) from I.hok b _ hb)
  refine PySem.W.rcP_dicts (knd := mixKind X.prog X.w) (r := eqKVgo ld kd) ya yb da db (by omega) (fun _ => hitsD I sub (A := X.A.in1) (by show X.A.units + 1 + 64 < cLine; omega) ol rb qb ok ra qa) _ _ ?_
  refine ⟨.bl (eqKV kd ld), H, I, ?_, q⟩
  have e : (va.length == vb.length) = (kd.length == ld.length) := by rw [← qa.length, ← qb.length, ra.len, rb.len]
  show Value.bool _ = Value.bool _
  rw [e]
  rfl
end Lt

/-! # isinstance(x, C), the own == -/
namespace Lt
open PySem PySem.Spec L2 C8
structure IsC (K : PySem.W.Frag) (C : Addr) : Prop where
  ins : InsC K C
  dk : PySem.W.kitOne K (.type "dict") (.ref C) = some false
  nf : PySem.W.notFirst K C (.type "dict") = true
def eIsC (C : Addr) (i : Nat) : Rho → Out D := fun ρ => match ρ[i]? with
  | some (.val (.ins C' _ _)) => if C' = C then .ok (.bl true) ρ else .stuck
  | some (.own _ (.dk _)) => .ok (.bl false) ρ
  | _ => .stuck
theorem d_isC {X : Cx} {m : Fm} {W : WX} {C : Addr} {i : Nat} {x T : Str} {p p1 p2 pos : Pos} (c : IsC X.K C) (hm : X.mg "isinstance" = none) (hT : X.mg T = some (.ref C)) (hN : X.N[i]? = some x := by rfl) (hg : Gl X "isinstance" := by rfl) (hg2 : Gl X T := by rfl)
    (hv : Vis X.env.scope x := by first | exact Or.inl rfl | exact Or.inr (Or.inl rfl) | exact Or.inr (Or.inr rfl)) (hd : (x == ("__debug__" : Str)) = false := by decide) (hcd : (x == ("__classdict__" : Str)) = false := by decide) (hd2 : (T == ("__debug__" : Str)) = false := by decide)
    (hs : starEach [.Name x p1, .Name T p2] X.env = (false, eval (.Name x p1) X.env) :: starEach [.Name T p2] X.env := by rfl) (hs2 : starEach [.Name T p2] X.env = (false, eval (.Name T p2) X.env) :: starEach [] X.env := by rfl)
    (hpl : (backTo pos (starEach [.Name T p2] X.env)).any (·.1) = false := by rfl) : DE X m W (.Call (.Name "isinstance" p) [.Name x p1, .Name T p2] [] pos) (eIsC C i) := by
  refine PE.imp (pe_callB (CallR.or' (call_isC c.ins) call_isi) hg hm (by decide +kernel) (pa_cons (pv i hN hv hd hcd) (pa_cons (pe_glob (v := .ref C) hg2 hT rfl hd2) pa_nil hs2) hs) (by decide) (by decide) hs hpl) fun σ H Q q => ?_
  obtain ⟨F, ρ, r, a⟩ := q
  unfold eIsC at a
  cases e : ρ[i]? with
  | none => rw [e] at a; exact a.elim
  | some sl =>
    rw [e] at a
    obtain ⟨ov, o1, o2⟩ := r.slot i sl e
    cases sl with
    | no => exact a.elim
    | exn _ _ => exact a.elim
    | val d =>
      cases d <;> try exact a.elim
      rename_i C' ns ds
      dsimp only at a
      split at a
      · rename_i hC
        subst hC
        obtain ⟨v, rfl, p, dx, gs, rfl, h1, _⟩ := o2
        exact ⟨_, o1, .inl ⟨p, dx, gs, rfl, r.sub _ _ h1, a F H r (Same.refl _) _ rfl⟩⟩
      · exact a.elim
    | own b o =>
      cases o <;> try exact a.elim
      obtain ⟨c', ho, rfl, h1, ⟨ys, rfl, _⟩, _⟩ := o2
      exact ⟨_, o1, .inr ⟨_, _, _, _, false, rfl, .own C, .base (.dK h1), c.dk, a F H r (Same.refl _) _ rfl⟩⟩
/-! ### x == y, x of a class with its own == -/
structure EqC (P : Program) (w : World) (K : PySem.W.Frag) (mg : Str → Option Value) (base : Heap) (C : Addr) (k : Nat) (fs : Fs) : Prop where
  ex : ∃ f fd ps, PySem.W.findIn K (.ref C) "__eq__" = some (some (.ref f)) ∧ PySem.W.isFn K (.ref f) = true ∧ Binds K fd ps [] ∧ FnOk P w K mg base (L2.CX P w) k f fd ps (spF K fs)
/-- what the own == is asked for, and what it answers -/
structure EqSh (C : Addr) (fs : Fs) : Prop where
  arg : ∀ as, fs as ≠ .stuck → (∃ n d n2 d2, as = [.val (.ins C n d), .val (.ins C n2 d2)]) ∨ ∃ n d kvs, as = [.val (.ins C n d), .own (.dk kvs)]
  res : ∀ as, fs as ≠ .stuck → ∃ b bs, fs as = .ok (.val (.bl b)) bs
theorem EqSh.spf {K : PySem.W.Frag} {C : Addr} {fs : Fs} (sh : EqSh C fs) {vs : List V} {H : Hp} {Q : VK} {E : XK} (h : spF K fs vs H Q E) : spF K fs vs H (fun v H' => (∃ b, v = .bl b) ∧ Q v H') E ∧
    ∃ a y dx gs, vs = [.ref a, y] ∧ H a = some (.ins C dx gs) ∧ ((∃ b dy hs, y = .ref b ∧ H b = some (.ins C dy hs)) ∨ ∃ b ks, y = .ref b ∧ H b = some (.dK ks)) := by
  obtain ⟨F, as, sub, ok, nd, af⟩ := h
  have ns : fs as ≠ .stuck := fun z => by rw [z] at af; exact af
  obtain ⟨b, bs, e⟩ := sh.res as ns
  refine ⟨⟨F, as, sub, ok, nd, ?_⟩, ?_⟩
  · rw [e] at af ⊢
    intro F' H' v p rv
    exact ⟨⟨b, rv⟩, af F' H' v p rv⟩
  · rcases sh.arg as ns with ⟨n, d, n2, d2, rfl⟩ | ⟨n, d, kvs, rfl⟩
    · obtain ⟨v, r, rfl, ⟨p, dx, gs, rfl, h1, _⟩, u, r2, rfl, ⟨p2, dy, hs, rfl, h2, _⟩, rfl⟩ := ok
      exact ⟨p, _, dx, gs, rfl, sub _ _ h1, .inl ⟨p2, dy, hs, rfl, sub _ _ h2⟩⟩
    · obtain ⟨v, r, rfl, ⟨p, dx, gs, rfl, h1, _⟩, a, ho, r2, rfl, h2, ⟨ys, rfl, _⟩, _, rfl⟩ := ok
      exact ⟨p, _, dx, gs, rfl, sub _ _ h1, .inr ⟨a, ys, rfl, h2⟩⟩
section
variable {X : Cx} {m : Fm} {W : WX} {C : Addr} {k j : Nat} {fs : Fs} {l r : Expr} {tl tr : TE} {E : St → XK} {pos : Pos}
theorem pc_ownEq (c : IsC X.K C) (q : EqC X.prog X.w X.K X.mg X.base C k fs) (sh : EqSh C fs) (hr : Room k X.A) (hx : ∀ σ, PassesAt (L2.CX X.prog X.w) X σ (E σ)) (hl : PE X l tl) (hrr : PE X r tr) :
    PC X .Eq l r (tCallS (spF X.K fs) E (tCons tl (tCons tr tNil))) := by
  obtain ⟨f, fd, ps, h1, h2, h3, h4⟩ := q.ex
  refine ⟨fun pins s σ H Q I h => ?_⟩
  refine binT hl hrr I h fun v u s2 x y H2 I2 rx ry q => ?_
  obtain ⟨q, a, y', dx, gs, e, ha, hy⟩ := sh.spf q
  cases e
  cases (show v = Value.ref a from rx)
  obtain ⟨mA, J, _⟩ := ins_get I2.hok ha
  obtain ⟨od, J, _⟩ := J.look
  obtain ⟨mm, hF⟩ := I2.fr
  show wpAny (model X.prog X.w) X.A (richCompare .Eq (.ref a) u) _ _ s2
  have main : ∀ {tb : Value}, PySem.W.Looks (model X.prog X.w) s2.heap (typeOf u) tb → PySem.W.notFirst X.K C tb = true → wpAny (model X.prog X.w) X.A (richCompare .Eq (.ref a) u) (EP X pins σ Q) X.xe s2 := by
    intro tb lk nf
    refine PySem.W.cmp_K (op := .Eq) (tb := tb) hr.units0 hF I2.ok.mod.kin J lk nf h1 h2 ?_
    refine wpAny_mono (run_fnS h4 hr h3 (hx σ) I2 (Paired.cons (show RelV (.ref a) (.ref a) from rfl) (Paired.cons ry .nil)) q) (fun z s' hz => ?_) fun _ _ e => e
    obtain ⟨v, H', I', rv, ⟨b, rfl⟩, qq⟩ := hz
    cases (show z = Value.bool b from rv)
    exact ⟨.bl b, H', I', rfl, qq⟩
  rcases hy with ⟨b, dy, hs, rfl, hb⟩ | ⟨b, ks, rfl, hb⟩
  · cases (show u = Value.ref b from ry)
    obtain ⟨mB, J', _⟩ := ins_get I2.hok hb
    obtain ⟨od', J', _⟩ := J'.look
    exact main (tb := .ref C) J'.type (by simp [PySem.W.notFirst])
  · cases (show u = Value.ref b from ry)
    obtain ⟨_, _, vs, _, o, es, ep, g1, g2, _⟩ := (show ObjOk X.prog X.w H2 s2.heap b (.dK ks) from I2.hok b _ hb)
    exact main (tb := .type "dict") (by have z : PySem.W.Looks (model X.prog X.w) s2.heap (typeOf (.ref b)) o.cls := (PySem.W.Looks.ld g1).andThen .now; rw [g2.1] at z; exact z) c.nf
theorem tar_cons {g : Rho → Out D} {gs : Rho → Out (List Ar)} {σ : St} {H : Hp} {Q : List V → Hp → Prop} (h : tAr X.K m W (arVal g gs) σ H Q) : tCons (tD X.K m W g) (tAr X.K m W gs) σ H Q := by
  obtain ⟨F, ρ, r, a⟩ := h
  refine ⟨F, ρ, r, (Aft.bind a).imp fun d ρ1 F1 H1 r1 s1 a1 v rv => ⟨F1, ρ1, r1, (Aft.bind a1).imp fun ds ρ2 F2 H2 r2 s2 a2 vs rvs => ?_⟩⟩
  exact a2 F2 H2 r2 (Same.refl _) _ ⟨v, vs, rfl, Rep.mono s2 _ _ rv, rvs⟩
theorem tar_nil {σ : St} {H : Hp} {Q : List V → Hp → Prop} (h : tAr X.K m W arNil σ H Q) : tNil σ H Q := by
  obtain ⟨F, ρ, r, a⟩ := h
  exact a F H r (Same.refl _) [] rfl
theorem td_mono {g : Rho → Out D} {σ : St} {H : Hp} {Q Q' : VK} (h : tD X.K m W g σ H Q) (hq : ∀ v H', Q v H' → Q' v H') : tD X.K m W g σ H Q' := by
  obtain ⟨F, ρ, r, a⟩ := h
  exact ⟨F, ρ, r, a.imp fun d ρ1 F1 H1 r1 s1 a1 v rv => hq _ _ (a1 v rv)⟩
theorem PC.imp' {op : CmpOp} {t t' : TE} (h : PC X op l r t) (f : ∀ σ H Q, t' σ H Q → t σ H Q) : PC X op l r t' := ⟨fun pins s σ H Q I q => h.run pins s σ H Q I (f σ H Q q)⟩
/-- l == r, both of the class -/
theorem c_eqV {gl gr : Rho → Out D} (c : IsC X.K C) (q : EqC X.prog X.w X.K X.mg X.base C k fs) (sh : EqSh C fs) (hr : Room j X.A) (tk : Takes X W) (hl : DE X m W l gl) (hrr : DE X m W r gr) (hk : k ≤ j := by decide) :
    PC X .Eq l r (tD X.K m W (eFnO fs (arVal gl (arVal gr arNil)))) :=
  PC.imp' (pc_ownEq c q sh (hr.mono hk) (fun σ => passAt tk σ) hl hrr) fun σ H Q q => by
    have z : tCallS (spF X.K fs) (WE W) (tAr X.K m W (arVal gl (arVal gr arNil))) σ H Q := lent_of (by
      obtain ⟨F, ρ, r, a⟩ := q
      refine ⟨F, ρ, r, (Aft.bind a).imp fun rr ρ1 F1 H1 r1 s1 a1 v rv => ?_⟩
      cases rr with
      | val d => exact a1 F1 H1 r1 (Same.refl _) v rv
      | own o => exact a1.elim)
    exact td_mono (tar_cons z) fun v H' z2 => td_mono (tar_cons z2) fun v' H'' z3 => tar_nil z3
theorem d_eqV {g : Rho → Out D} (h : PC X .Eq l r (tD X.K m W g)) (hm : behindInMarks .Eq r = false := by first | exact nobehind _ (by decide) (by decide) | rfl) : DE X m W (.Compare l [.Eq] [r] pos) g := pe_cmp h hm
theorem t_eqV {g : Rho → Out D} (h : PC X .Eq l r (tD X.K m W g)) (hm : behindInMarks .Eq r = false := by first | exact nobehind _ (by decide) (by decide) | rfl) : DT X m W (.Compare l [.Eq] [r] pos) (eTest g) :=
  PT.imp (pt_cmp h hm) fun σ H Q q => test_of (fun _ _ _ => id) q
/-- l == x, x a dict of its own -/
theorem c_eqS {gl : Rho → Out D} {i : Nat} {x : Str} {p : Pos} (c : IsC X.K C) (q : EqC X.prog X.w X.K X.mg X.base C k fs) (sh : EqSh C fs) (hr : Room j X.A) (tk : Takes X W) (hl : DE X m W l gl) (hk : k ≤ j := by decide) (hN : X.N[i]? = some x := by rfl) (hv : Vis X.env.scope x := by first | exact Or.inl rfl | exact Or.inr (Or.inl rfl) | exact Or.inr (Or.inr rfl)) (hd : (x == ("__debug__" : Str)) = false := by decide)
    (hcd : (x == ("__classdict__" : Str)) = false := by decide) :
    PC X .Eq l (.Name x p) (tD X.K m W (eFnO fs (arVal gl (arSlot i arNil)))) :=
  PC.imp' (pc_ownEq c q sh (hr.mono hk) (fun σ => passAt tk σ) hl (pv i hN hv hd hcd)) fun σ H Q q => by
    have z : tCallS (spF X.K fs) (WE W) (tAr X.K m W (arVal gl (arSlot i arNil))) σ H Q := lent_of (by
      obtain ⟨F, ρ, r, a⟩ := q
      refine ⟨F, ρ, r, (Aft.bind a).imp fun rr ρ1 F1 H1 r1 s1 a1 v rv => ?_⟩
      cases rr with
      | val d => exact a1 F1 H1 r1 (Same.refl _) v rv
      | own o => exact a1.elim)
    refine td_mono (tar_cons z) fun v H' z2 => ?_
    obtain ⟨F, ρ, r, a⟩ := z2
    unfold arSlot at a
    split at a
    · rename_i b o e
      obtain ⟨c, ho, q1, q2, q3, q4, q5⟩ := r.own_at e
      refine ⟨_, q1, ?_⟩
      exact tar_nil (X := X) (Q := fun vs H2 => _) ⟨F, ρ, r, (Aft.bind a).imp fun ds ρ2 F2 H2 r2 s2 a2 vs rvs => a2 F2 H2 r2 (Same.refl _) _ ⟨_, vs, rfl, q1, rvs⟩⟩
    · exact a.elim
end
end Lt
namespace Lt
open PySem PySem.Spec L2 C8
theorem isC_mk {K : PySem.W.Frag} {C : Addr} (cl : Cls K C) (ha : PySem.W.findIn K (.ref C) "__class__" = some (some (.builtin "object.__class__"))) (hn : PySem.W.specialIn K (.builtin "object.__class__") "__get__" = some (some (.builtin "getset_descriptor.__get__"))) (ht : PySem.W.takesIn K (.builtin "object.__class__") = some true)
    (hm : PySem.W.mroIn K C (.type "object") = some true) (ic : PySem.W.isClsIn K C = true) (ty : PySem.W.typeIn K (.ref C) = some (.type "type")) (su : PySem.W.subIn K (.type "dict") (.ref C) = some false) (nf : PySem.W.notFirst K C (.type "dict") = true) : IsC K C where
  ins := ⟨cl, ha, hn, ht, hm, if_pos (beq_self_eq_true _)⟩
  dk := by
    unfold PySem.W.isClsIn at ic
    unfold PySem.W.kitOne PySem.W.kitCls
    rw [if_neg (by intro z; have := beq_iff_eq.mp z; cases this)]
    dsimp only
    rw [ic, ty, su]
    rfl
  nf := nf
end Lt

/-! # dict == dict of two names; e = new if .. else d -/
namespace Lt
open PySem PySem.Spec L2 C8
open Classical in
noncomputable def eEqKK (i j : Nat) : Rho → Out D := fun ρ => match dkAt i ρ, dkAt j ρ with
  | some a, some b => if okKV a ∧ okKV b then .ok (.bl (eqKV a b)) ρ else .stuck
  | _, _ => .stuck
section
variable {X : Cx} {m : Fm} {W : WX}
theorem d_eqKK {i j n : Nat} {x y : Str} {p1 p2 pos : Pos} (hr : Room n X.A) (hN : X.N[i]? = some x := by rfl) (hN2 : X.N[j]? = some y := by rfl) (hv : Vis X.env.scope x := by first | exact Or.inl rfl | exact Or.inr (Or.inl rfl) | exact Or.inr (Or.inr rfl)) (hv2 : Vis X.env.scope y := by first | exact Or.inl rfl | exact Or.inr (Or.inl rfl) | exact Or.inr (Or.inr rfl))
    (hd : (x == ("__debug__" : Str)) = false := by decide) (hcd : (x == ("__classdict__" : Str)) = false := by decide) (hd2 : (y == ("__debug__" : Str)) = false := by decide) (hcd2 : (y == ("__classdict__" : Str)) = false := by decide)
    (hm : behindInMarks .Eq (.Name y p2) = false := by first | exact nobehind _ (by decide) (by decide) | rfl) : DE X m W (.Compare (.Name x p1) [.Eq] [.Name y p2] pos) (eEqKK i j) :=
  PE.imp (pe_cmpR (op_eqK (by have := hr.un; omega)) (pv i hN hv hd hcd) (pv j hN2 hv2 hd2 hcd2) hm) fun σ H Q h => by
    obtain ⟨F, ρ, r, a⟩ := h
    unfold eEqKK at a
    split at a
    · rename_i kd ld e1 e2
      split at a
      · rename_i ok
        obtain ⟨p, ys, q1, q2, q3, _⟩ := r.dkOwn e1
        obtain ⟨p', zs, w1, w2, w3, _⟩ := r.dkOwn e2
        exact ⟨_, q1, _, w1, p, p', F, kd, ld, ys, zs, rfl, rfl, r.sub, q2, w2, q3, w3, ok.1, ok.2, a F H r (Same.refl _) _ rfl⟩
      · exact a.elim
    · exact a.elim
/-! ### what one name holds, under another one -/
def mvS (i j : Nat) (ρ : Rho) : Rho := match ρ[i]? with
  | some s => (ρ.set i .no).set j s
  | none => ρ
theorem Rel.mv {K : PySem.W.Frag} {F H : Hp} {ρ : Rho} {σ : St} (r : Rel K m F ρ σ H) {i j : Nat} {b : Option Nat} {o : O} (hi : ρ[i]? = some (.own b o)) (hij : i ≠ j) (hσ : σ[j]? = σ[i]?) : Rel K m F (mvS i j ρ) σ H := by
  have ai : ∀ k, (mvS i j ρ)[k]? = if j = k then (if j < ρ.length then some (.own b o) else none) else if i = k then some .no else ρ[k]? := by
    intro k
    unfold mvS
    rw [hi]
    dsimp only
    rw [List.getElem?_set, List.length_set, List.getElem?_set]
    have hl : i < ρ.length := (List.getElem?_eq_some_iff.mp hi).1
    split
    · rfl
    · split
      · first | rfl | rw [if_pos hl]
      · rfl
  refine { sub0 := r.sub0, sub := r.sub, prot := r.prot, grow := r.grow, bor := r.bor, len := ?_, slot := fun k s hk => ?_, dist := fun k l a b1 o1 b2 o2 hkl h1 h2 s1 s2 => ?_, bh := r.bh }
  · unfold mvS
    rw [hi]
    dsimp only
    rw [List.length_set, List.length_set, r.len]
  · rw [ai k] at hk
    split at hk
    · rename_i e
      subst e
      split at hk
      · cases hk
        rw [hσ]
        exact r.slot i _ hi
      · cases hk
    · split at hk
      · rename_i e
        subst e
        cases hk
        obtain ⟨ov, q, _⟩ := r.slot i _ hi
        exact ⟨ov, q, trivial⟩
      · exact r.slot k s hk
  · rw [ai k] at h1
    rw [ai l] at h2
    by_cases ek : j = k
    · subst ek
      rw [if_neg hkl] at h2
      split at h2
      · cases h2
      · rename_i hil
        rw [hσ] at s1
        exact r.dist i l a b o b2 o2 hil hi h2 s1 s2
    · rw [if_neg ek] at h1
      split at h1
      · cases h1
      · rename_i hik
        by_cases el : j = l
        · subst el
          rw [hσ] at s2
          exact r.dist k i a b1 o1 b o (fun z => hik z.symm) h1 hi s1 s2
        · rw [if_neg el] at h2
          split at h2
          · cases h2
          · exact r.dist k l a b1 o1 b2 o2 hkl h1 h2 s1 s2
open Classical in
/-- the test, e and d one object: it does not hold -/
noncomputable def sAl (i j : Nat) (gA gC : Rho → Out D) : Rho → Fl := fun ρ => match dkAt i ρ with
  | none => .stuck
  | some _ => if j < ρ.length then (gA (mvS i j (ρ.set j .no))).fl fun d ρ2 => match d, dkAt j ρ2 with
    | .bl b1, some kvs => if okKV kvs ∧ b1 = eqKV kvs kvs then (gC (mvS j i ρ2)).fl fun d2 ρ3 => match d2 with
      | .bl false => .nx ρ3
      | _ => .stuck
      else .stuck
    | _, _ => .stuck
    else .stuck
noncomputable def sAlias (i j : Nat) (t : Rho → Out Bool) (go : Rho → Out O) (f : Rho → Fl) (gA gC : Rho → Out D) : Rho → Fl := fun ρ => (t ρ).fl fun k ρ1 => if k = true then (go ρ1).fl fun o ρ2 => f (ρ2.set j (.own none o)) else sAl i j gA gC ρ1
theorem neBl {b : Bool} : neD (.bl b) (.bl b) = some (.bl false) := by
  cases b <;> (unfold neD; rw [if_pos ⟨by decide +kernel, by decide +kernel⟩]; exact congrArg (fun x => some (D.bl x)) (by decide +kernel))
theorem b_alias {C : Addr} {k n i j : Nat} {fs : Fs} {xe xd : Str} {tst oe made plan cC : Expr} {p1 p2 p3 p4 p5 p6 p7 p8 p9 pa pi : Pos} {ret rest : List Stmt} {t : Rho → Out Bool} {go : Rho → Out O} {gA gP gC : Rho → Out D} {cT : Rho → Out Bool} {fr g : Rho → Fl}
    (hr : Room n X.A) (c : IsC X.K C) (q : EqC X.prog X.w X.K X.mg X.base C k fs) (sh : EqSh C fs) (tk : Takes X W) (ht : DT X m W tst t) (ho : DEO X m W oe go) (hA : DE X m W made gA) (hP : DE X m W plan gP) (hC : PT X cC (tB (tD X.K m W gC)))
    (hcond : DT X m W (.BoolOp .Or [.Compare (.Compare made [.Eq] [plan] p1) [.NotEq] [.Compare (.Name xe p2) [.Eq] [.Name xd p3] p4] p5, cC] p6) cT) (hret : DB X m W ret fr) (hrest : DB X m W rest g)
    (hNd : X.N.Nodup) (hi : X.N[i]? = some xd) (hj : X.N[j]? = some xe) (hij : i ≠ j) (hx : Loc X.env.scope xe) (hk : k ≤ n := by decide)
    (hs : swapsWith (.IfExp tst oe (.Name xd p7) p8) (some (.Name xe p9)) pa.line X.env = pure false := by rfl)
    (hf : X.fn xe = true ∨ X.env.scope.names.lookup xe = some .local := by first | exact .inl rfl | exact .inr rfl | assumption)
    (hv : Vis X.env.scope xe := by first | exact Or.inl rfl | exact Or.inr (Or.inl rfl) | exact Or.inr (Or.inr rfl)) (hv2 : Vis X.env.scope xd := by first | exact Or.inl rfl | exact Or.inr (Or.inl rfl) | exact Or.inr (Or.inr rfl))
    (hd : (xe == ("__debug__" : Str)) = false := by decide) (hcd : (xe == ("__classdict__" : Str)) = false := by decide) (hd2 : (xd == ("__debug__" : Str)) = false := by decide) (hcd2 : (xd == ("__classdict__" : Str)) = false := by decide)
    (hm : behindInMarks .Eq plan = false := by first | exact nobehind _ (by decide) (by decide) | rfl) (hm1 : behindInMarks .Eq (.Name xd p3) = false := by first | exact nobehind _ (by decide) (by decide) | rfl) (hm2 : behindInMarks .NotEq (.Compare (.Name xe p2) [.Eq] [.Name xd p3] p4) = false := by first | exact nobehind _ (by decide) (by decide) | rfl) :
    DB X m W (.Assign [.Name xe p9] (.IfExp tst oe (.Name xd p7) p8) pa :: .If (.BoolOp .Or [.Compare (.Compare made [.Eq] [plan] p1) [.NotEq] [.Compare (.Name xe p2) [.Eq] [.Name xd p3] p4] p5, cC] p6) ret [] pi :: rest)
      (sSeq (sAlias i j t go (sIf cT fr sNext) (eFnO fs (arVal gA (arVal gP arNil))) gC) g) := by
  have hEq : DE X m W (.Compare made [.Eq] [plan] p1) _ := d_eqV (c_eqV c q sh hr tk hA hP hk) hm
  have hu : X.A.units + 70 < cLine := by have := hr.un; omega
  have c2 : PT X (.BoolOp .Or [.Compare (.Compare made [.Eq] [plan] p1) [.NotEq] [.Compare (.Name xe p2) [.Eq] [.Name xd p3] p4] p5, cC] p6) _ :=
    (pw_or (pt_cmpR (pos := p5) (op_neD hr.units) hEq (pe_cmpR (pos := p4) (op_eqK hu) (pv (pos := p2) j hj hv hd hcd) (pv (pos := p3) i hi hv2 hd2 hcd2) hm1) hm2) (pw_or1 (pos := p6) hC)).pt
  have cc : PT X (.BoolOp .Or [.Compare (.Compare made [.Eq] [plan] p1) [.NotEq] [.Compare (.Name xe p2) [.Eq] [.Name xd p3] p4] p5, cC] p6) (fun σ H Q => tBl X.K m W cT σ H Q ∨ tOr (tTest (tOp (rNeD X.K) (tD X.K m W (eFnO fs (arVal gA (arVal gP arNil)))) (tOp (rEqK X.K) (tVar j) (tVar i)))) (tTest (tD X.K m W gC)) σ H Q) :=
    ⟨fun pins s σ H Q I h => h.elim (hcond.run pins s σ H Q I) (c2.run pins s σ H Q I)⟩
  refine PSs.imp (pss_cons (ps_set hNd hj hx (pe_ifExp ht ho (pv (pos := p7) i hi hv2 hd2 hcd2)) hs hf) (pss_cons (ps_if (pos := pi) cc hret pss_nil) hrest)) fun Dn σ H h => ?_
  have h' := seq_of h
  obtain ⟨F, ρ, r, a⟩ := h'
  unfold sAlias at a
  refine ⟨F, ρ, r, (Aft.fl a).imp fun k ρ1 F1 H1 r1 s1 a1 => ?_⟩
  cases k with
  | true =>
    refine ⟨F1, ρ1, r1, (Aft.fl a1).imp fun o ρ2 F2 H2 r2 s2 a2 p ho as ro => .inl ?_⟩
    refine ⟨F2, _, r2.storeO j as ro, (Aft.fl a2).imp fun k ρ3 F3 H3 r4 s4 a3 => ?_⟩
    cases k with
    | true => exact ⟨F3, ρ3, r4, a3⟩
    | false => exact a3 F3 _ H3 r4 (Same.refl _)
  | false =>
    rw [if_neg (by decide)] at a1
    unfold sAl at a1
    split at a1
    · exact a1.elim
    · rename_i kvs ek
      obtain ⟨b, e⟩ := dkAt_is ek
      obtain ⟨p, ho, w1, w2, w3, w4, w5⟩ := r1.own_at e
      split at a1
      rotate_left
      · exact a1.elim
      rename_i hji
      have r0 : Rel X.K m F1 (ρ1.set j .no) (σ.set j (some (.ref p))) H1 := r1.store j trivial fun _ _ _ _ _ z => by cases z
      have e0 : (ρ1.set j .no)[i]? = some (.own b (.dk kvs)) := by rw [List.getElem?_set_ne (Ne.symm hij)]; exact e
      have z1 : (σ.set j (some (V.ref p)))[i]? = some (some (.ref p)) := by rw [List.getElem?_set_ne (Ne.symm hij)]; exact w1
      have z2 : (σ.set j (some (V.ref p)))[j]? = some (some (.ref p)) := by rw [List.getElem?_set_self (by rw [← r1.len]; exact hji)]
      have rm := r0.mv e0 hij (z2.trans z1.symm)
      refine ⟨_, w1, .inr ?_⟩
      refine ⟨F1, _, rm, (Aft.fl a1).imp fun d ρ2 F2 H2 r3 s3 a3 v rv => ?_⟩
      split at a3
      · rename_i b1 kv2 ek2
        split at a3
        · rename_i ok
          obtain ⟨p', ys, q1, q2, q3, _⟩ := r3.dkOwn ek2
          rw [z2] at q1
          cases q1
          refine ⟨_, z2, _, z1, p, p, F2, kv2, kv2, ys, ys, rfl, rfl, r3.sub, q2, q2, q3, q3, ok.1, ok.1, ?_⟩
          refine od_ne (W := W) F2 ρ2 _ H2 (.bl b1) (.bl (eqKV kv2 kv2)) v _ _ r3 rv rfl ?_
          rw [ok.2, neBl]
          intro F3 H3 r4 s4 w rw'
          refine ⟨false, rw', ?_⟩
          obtain ⟨b', e'⟩ := dkAt_is ek2
          have rm2 := r4.mv e' (Ne.symm hij) (z1.trans z2.symm)
          refine ⟨F3, _, rm2, (Aft.fl (AftF.weak a3 s4)).imp fun d2 ρ3 F4 H4 r5 s5 a5 w2 rw2 => ?_⟩
          split at a5
          · exact ⟨false, rw2, a5 F4 _ H4 r5 (Same.refl _)⟩
          · exact a5.elim
        · exact a3.elim
      · exact a3.elim
end
end Lt

/-! # Texts: join, split, str(x), int(text), f"..{x}" -/
namespace Lt
open PySem PySem.Spec L2
def asStrs : List D → Option (List Str)
  | [] => some []
  | .str x :: r => (asStrs r).map (x :: ·)
  | _ => none
theorem asStrs_map : ∀ xs : List Str, asStrs (xs.map D.str) = some xs
  | [] => rfl
  | x :: xs => by rw [List.map_cons, asStrs, asStrs_map xs]; rfl
theorem asStrs_is : ∀ {ds : List D} {xs : List Str}, asStrs ds = some xs → ds = xs.map D.str
  | [], xs, h => by cases h; rfl
  | d :: r, xs, h => by
    cases d <;> simp only [asStrs, reduceCtorEq] at h
    obtain ⟨ms, h1, h2⟩ := Option.map_eq_some_iff.mp h
    subst h2
    rw [asStrs_is h1]
    rfl
def joinD : D → D → Option D
  | .str a, .lst ds => match asStrs ds with
    | some ys => if (ys.map (·.length)).sum + ys.length * a.length ≤ 16777216 then some (.str (Txt.join a ys)) else none
    | none => none
  | _, _ => none
def splitD : D → D → Option D
  | .str a, .str b => if (b.length == 0) = false ∧ a.length + 2 ≤ sizeLine then some (.lst ((Txt.split a b).map .str)) else none
  | _, _ => none
/-- a method of a text, one argument -/
def eM1 (f : D → D → Option D) (ga gb : Rho → Out D) : Rho → Out D := fun ρ => (ga ρ).bind fun a ρ1 => match a with
  | .str _ => (gb ρ1).bind fun b ρ2 => lift (f a b) ρ2
  | _ => .stuck
@[simp] theorem rd_m1 {f : D → D → Option D} {ga gb : Rho → Out D} {ρ : Rho} : eM1 f ga gb ρ = (ga ρ).bind fun a ρ1 => match a with
  | .str _ => (gb ρ1).bind fun b ρ2 => lift (f a b) ρ2
  | _ => .stuck := (rfl)
section
variable {X : Cx} {m : Fm} {W : WX}
theorem m1_of {f : D → D → Option D} {go ge : Rho → Out D} {r : V → List V → Hp → VK → Prop} (hd : ∀ (F : Hp) (ρ : Rho) (σ : St) (H : Hp) (z : Str) (b : D) (y : V) (Q : VK), Rel X.K m F ρ σ H → Rep X.K F b y → Aft X.K m W F σ (lift (f (.str z) b) ρ) (fun d _ F' H' => ∀ v, Rep X.K F' d v → Q v H') → r (.str z) [y] H Q)
    {σ : St} {H : Hp} {Q : VK} (h : tD X.K m W (eM1 f go ge) σ H Q) : tM1 r (tD X.K m W go) (tD X.K m W ge) σ H Q := by
  obtain ⟨F, ρ, rl, a⟩ := h
  refine ⟨F, ρ, rl, (Aft.bind a).imp fun d ρ1 F1 H1 r1 s1 a1 v rv => ?_⟩
  cases d <;> try exact a1.elim
  rename_i z
  have : v = .str z := rv
  subst this
  exact ⟨⟨z, rfl⟩, F1, ρ1, r1, (Aft.bind a1).imp fun e ρ2 F2 H2 r2 s2 a2 y ry => hd F2 ρ2 σ H2 z e y Q r2 ry a2⟩
theorem d_join {o e : Expr} {go ge : Rho → Out D} {apos pos : Pos} (ho : DE X m W o go) (he : DE X m W e ge) (hs : starEach [e] X.env = [(false, eval e X.env)] := by rfl) (hbase : attributeBase o "join" X.env (eval o X.env) = eval o X.env := by rfl) (hline : (apos.endLine == pos.line) = true := by rfl) :
    DE X m W (.Call (.Attribute o "join" apos) [e] [] pos) (eM1 joinD go ge) := PE.imp (pe_join ho he hs hbase hline) fun σ H Q h => m1_of (fun F ρ σ H z b y Q r rb a => by
  obtain ⟨d, hd, h9⟩ := Aft.lift a
  unfold joinD at hd
  split at hd <;> try cases hd
  rename_i z' ds ez
  cases ez
  split at hd <;> try cases hd
  rename_i ys ey
  split at hd <;> cases hd
  rename_i hz
  obtain ⟨p, xs, rfl, h1, h2⟩ := r.lstOf rb
  rw [asStrs_is ey] at h2
  have e2 := h2.strs
  subst e2
  exact ⟨z, p, ys, rfl, rfl, .inl (SqL.of h1), hz, h9 F H r (Same.refl _) _ rfl⟩) h
theorem d_split {o e : Expr} {go ge : Rho → Out D} {apos pos : Pos} (ho : DE X m W o go) (he : DE X m W e ge) (hs : starEach [e] X.env = [(false, eval e X.env)] := by rfl) (hbase : attributeBase o "split" X.env (eval o X.env) = eval o X.env := by rfl) (hline : (apos.endLine == pos.line) = true := by rfl) :
    DE X m W (.Call (.Attribute o "split" apos) [e] [] pos) (eM1 splitD go ge) := PE.imp (pe_split ho he hs hbase hline) fun σ H Q h => m1_of (fun F ρ σ H z b y Q r rb a => by
  obtain ⟨d, hd, h9⟩ := Aft.lift a
  unfold splitD at hd
  split at hd <;> try cases hd
  rename_i z' x ez
  cases ez
  split at hd <;> cases hd
  rename_i hz
  have : y = .str x := rb
  subst this
  exact ⟨z, x, rfl, rfl, hz.1, hz.2, fun p hn => new_lst r (fun F' H' => h9 F' H') (Reps.of_strs _) hn⟩) h
end
/-! ### str(x), int(x) -/
def strD : List D → Option D
  | [.int i] => if i.natAbs.log2 < 1920 then some (.str (toString i)) else none
  | [.str a] => some (.str a)
  | _ => none
theorem cr_str {X : Cx} : CallR X (.type "str") (fun xs H Q => (∃ i, xs = [.int i] ∧ i.natAbs.log2 < 1920 ∧ Q (.str (toString i)) H) ∨ ∃ a, xs = [.str a] ∧ Q (.str a) H) := CallR.or' call_str_int SkE.call_str_str
theorem cd_str {K : PySem.W.Frag} {m : Fm} {W : WX} : CallD K m W strD (fun xs H Q => (∃ i, xs = [.int i] ∧ i.natAbs.log2 < 1920 ∧ Q (.str (toString i)) H) ∨ ∃ a, xs = [.str a] ∧ Q (.str a) H) := by
  intro F ρ σ H as xs Q r ha h
  obtain ⟨d, hd, h9⟩ := Aft.lift h
  clear h
  unfold strD at hd
  split at hd <;> try cases hd
  · split at hd <;> cases hd
    rename_i hz
    obtain ⟨x, rfl, q⟩ := ha.one'
    exact .inl ⟨_, by rw [show x = _ from q], hz, h9 F H r (Same.refl _) _ rfl⟩
  · obtain ⟨x, rfl, q⟩ := ha.one'
    exact .inr ⟨_, by rw [show x = _ from q], h9 F H r (Same.refl _) _ rfl⟩
def intSD : List D → Option D
  | [.str a] => if a.length ≤ 640 then (PySem.intText? a).map .int else none
  | _ => none
theorem cd_intS {K : PySem.W.Frag} {m : Fm} {W : WX} : CallD K m W intSD (fun xs H Q => ∃ a n, xs = [.str a] ∧ PySem.intText? a = some n ∧ a.length ≤ 640 ∧ Q (.int n) H) := by
  intro F ρ σ H as xs Q r ha h
  obtain ⟨d, hd, h9⟩ := Aft.lift h
  clear h
  unfold intSD at hd
  split at hd <;> try cases hd
  split at hd <;> try cases hd
  rename_i hz
  obtain ⟨n, hn, rfl⟩ := Option.map_eq_some_iff.mp hd
  obtain ⟨x, rfl, q⟩ := ha.one'
  exact ⟨_, n, by rw [show x = _ from q], hn, hz, h9 F H r (Same.refl _) _ rfl⟩
/-! ### f"c{x}" -/
def fstrD (c : Str) : D → Option D
  | .str y => if y.length ≤ sizeLine ∧ (Str.empty ++ c ++ y).length ≤ sizeLine then some (.str (Str.empty ++ c ++ y)) else none
  | _ => none
theorem d_fstr {X : Cx} {m : Fm} {W : WX} {e : Expr} {c : Str} {k : Nat} {g : Rho → Out D} {p1 p2 pos : Pos} (he : DE X m W e g) (hc : (Str.empty ++ c).length ≤ 1000 := by decide) :
    DE X m W (.JoinedStr [.Constant (.str c) k p1, .FormattedValue e (-1) none p2] pos) (eUn (fstrD c) g) :=
  PE.imp (pe_joined (.cons pe_str (.cons (pe_fmt he) .nil))) fun σ H Q h => by
    obtain ⟨F, ρ, r, a⟩ := h
    refine ⟨c, rfl, by rw [sizeLine_eq]; omega, F, ρ, r, (Aft.bind a).imp fun d ρ1 F1 H1 r1 s1 a1 v rv => ?_⟩
    obtain ⟨d2, e1, h9⟩ := Aft.lift a1
    unfold fstrD at e1
    split at e1 <;> try cases e1
    split at e1 <;> cases e1
    rename_i y hz
    have : v = .str y := rv
    subst this
    exact .inl ⟨y, rfl, hz.1, y, rfl, hz.2, h9 F1 H1 r1 (Same.refl _) _ rfl⟩
end Lt

/-! # text * int -/
namespace Lt
open PySem PySem.Spec L2
def repS (x : Str) (k : Int) : Str := if k < 1 then Str.empty else if (k == 1 || x.length == 0) = true then x else ⟨(List.replicate k.toNat x.cps).foldl (· ++ ·) #[]⟩
def rRepS : R2 := fun x y H Q => ∃ (z : Str) (k : Int), x = .str z ∧ y = .int k ∧ (0 ≤ k ∧ k ≤ 1000) ∧ z.length ≤ 1000 ∧ (repS z k).length ≤ sizeLine ∧ Q (.str (repS z k)) H
theorem op_repS {X : Cx} : OpR X (binaryOp .Mult) rRepS := by
  intro pins s σ H x y v u Q I rx ry h
  obtain ⟨z, k, rfl, rfl, hk, hz, hl, q⟩ := h
  obtain ⟨t, rfl⟩ := rx
  obtain ⟨t', rfl⟩ := ry
  have p63 : (1000 : Int) < 2 ^ 63 := by decide
  have n63 : -(2 ^ 63 : Int) ≤ 0 := by decide
  refine PySem.P.mul_str ?_ ?_ ?_ ?_
  · rw [decide_eq_false (by omega), decide_eq_false (by omega)]
    rfl
  · intro c _ hgt
    have kp : 0 < k := by omega
    have m1 : (z.length : Int) * k ≤ 1000 * 1000 := Int.mul_le_mul (by omega) hk.2 (by omega) (by decide)
    have m2 : (z.length : Int) ≤ (2 ^ 63 - 1) / k := (Int.le_ediv_iff_mul_le kp).mpr (Int.le_trans m1 (by decide))
    omega
  · intro c _
    have m1 : z.length * k.toNat ≤ 1000 * 1000 := Nat.mul_le_mul hz (by omega)
    have : ¬ (z.length * k.toNat > sizeLine) := by rw [sizeLine_eq]; omega
    exact decide_eq_false this
  · unfold repS at hl q
    split
    · rename_i c
      rw [if_pos c] at hl q
      exact ⟨hl, .str Str.empty, H, I.tok _, ⟨_, rfl⟩, q⟩
    · rename_i c
      rw [if_neg c] at hl q
      split
      · rename_i c2
        rw [if_pos c2] at q
        exact ⟨.str z, H, I, ⟨_, rfl⟩, q⟩
      · rename_i c2
        rw [if_neg c2] at hl q
        exact ⟨hl, .str _, H, I.tok _, ⟨_, rfl⟩, q⟩
def mulSD : D → D → Option D
  | .str z, .int k => if (0 ≤ k ∧ k ≤ 1000) ∧ z.length ≤ 1000 ∧ (repS z k).length ≤ sizeLine then some (.str (repS z k)) else none
  | _, _ => none
theorem od_repS {K : PySem.W.Frag} {m : Fm} {W : WX} : OpD K m W mulSD rRepS := by
  intro F ρ σ H a b x y Q r ha hb h
  obtain ⟨d, hd, h9⟩ := Aft.lift h
  clear h
  unfold mulSD at hd
  split at hd <;> try cases hd
  split at hd <;> cases hd
  rename_i hz
  exact ⟨_, _, ha, hb, hz.1, hz.2.1, hz.2.2, h9 F H r (Same.refl _) _ rfl⟩
theorem e_mulS {X : Cx} {m : Fm} {W : WX} {a b : Expr} {ga gb : Rho → Out D} {pos : Pos} (ha : DE X m W a ga) (hb : DE X m W b gb) : DE X m W (.BinOp a .Mult b pos) (eBin mulSD ga gb) := d_op op_repS od_repS ha hb
end Lt

/-! # Methods of own instances; x.f += e -/
namespace Lt
open PySem PySem.Spec L2
structure MethC (P : Program) (w : World) (K : PySem.W.Frag) (mg : Str → Option Value) (base : Heap) (C : Addr) (mn : Str) (k : Nat) (fs : Fs) : Prop where
  ex : ∃ f fd ps, Meth K C mn f ∧ Binds K fd ps [] ∧ FnOk P w K mg base (L2.CX P w) k f fd ps (spF K fs)
theorem RepKV.look_none {K : PySem.W.Frag} {F : Hp} {f : Str} : ∀ {xs : List (Str × D)} {ys : List (Str × V)}, RepKV K F xs ys → xs.lookup f = none → ys.lookup f = none
  | [], _, h, e => by cases (show _ = [] from h); rfl
  | (k', d') :: r, ys, h, e => by
    obtain ⟨v, t, e1, h1, h2⟩ := (show ∃ v t, ys = (k', v) :: t ∧ Rep K F d' v ∧ RepKV K F r t from h)
    subst e1
    rw [List.lookup_cons] at e ⊢
    cases hb : f == k' with
    | true => rw [hb] at e; cases e
    | false => rw [hb] at e; exact RepKV.look_none h2 e
def tMethS (C : Addr) (mn : Str) (sp : Sp) (E : St → XK) (ta : TE) (t : TA) : TE := fun σ H Q => ta σ H fun x H1 => ∃ a dx fs, x = .ref a ∧ H1 a = some (.ins C dx fs) ∧ fs.lookup mn = none ∧ t σ H1 fun vs H2 => sp (x :: vs) H2 Q (E σ)
section
variable {X : Cx} {CX : CXT} {k : Nat} {f C : Addr} {fd : FuncData} {ps : List Str} {sp : Sp} {E : St → XK} {mn : Str} {pos apos : Pos} {e o : Expr} {es : List Expr} {ta : TE} {t : TA}
theorem pe_methS {pl : Sem Bool} (he : PE X o ta) (c : Cls X.K C) (hm : Meth X.K C mn f) (F : FnOk X.prog X.w X.K X.mg X.base CX k f fd ps sp) (hr : Room k X.A) (hb : Binds X.K fd ps []) (hx : ∀ σ, PassesAt CX X σ (E σ)) (ha : PA X (e :: es) t)
    (hst : starEach (e :: es) X.env = (false, eval e X.env) :: starEach es X.env := by rfl) (hpl : (backTo pos (starEach es X.env)).any (·.1) = false := by rfl)
    (ht : eval (.Call (.Attribute o mn apos) (e :: es) [] pos) X.env = (do
      let ov ← eval o X.env
      standAt apos.atName
      let (f, first) ← holding [ov] (getMethod ov mn pl)
      callWith pos f first (backTo pos (starEach (e :: es) X.env)) (backToKw pos (keywordEach [] X.env))) := by rfl) :
    PE X (.Call (.Attribute o mn apos) (e :: es) [] pos) (tMethS C mn sp E ta t) := by
  refine ⟨fun pins s σ H Q I h => ?_⟩
  refine PySem.W.methodCall_KW (pl := pl) (thn (he.run pins s σ H _ I h) fun u s1 ⟨x, H1, I1, rx, a, dx, fs, ex, ea, l, q⟩ => ?_) ht
  subst ex
  obtain rfl : u = Value.ref a := rx
  refine getmeth_ok I1 ea c hm l ?_
  refine PySem.W.callWith_K (first := [.ref a]) (h₀ := X.base) I.ok.mod.kin hm.kp (thn (ha.run pos pins s1 σ H1 _ I1 q) fun us s2 ⟨vs, H2, I2, r, q2⟩ => ⟨I2.kIn, ?_⟩) hst hpl
  exact run_fnS (us := .ref a :: us) (vs := .ref a :: vs) F hr hb (hx σ) I2 (.cons rfl r) q2
theorem pe_meth0S {pl : Sem Bool} (he : PE X o ta) (c : Cls X.K C) (hm : Meth X.K C mn f) (F : FnOk X.prog X.w X.K X.mg X.base CX k f fd ps sp) (hr : Room k X.A) (hb : Binds X.K fd ps []) (hx : ∀ σ, PassesAt CX X σ (E σ))
    (ht : eval (.Call (.Attribute o mn apos) [] [] pos) X.env = (do
      let ov ← eval o X.env
      standAt apos.atName
      let (f, first) ← holding [ov] (getMethod ov mn pl)
      callWith pos f first (backTo pos (starEach [] X.env)) (backToKw pos (keywordEach [] X.env))) := by rfl) :
    PE X (.Call (.Attribute o mn apos) [] [] pos) (tMethS C mn sp E ta tNil) := by
  refine ⟨fun pins s σ H Q I h => ?_⟩
  refine PySem.W.methodCall_KW (pl := pl) (thn (he.run pins s σ H _ I h) fun u s1 ⟨x, H1, I1, rx, a, dx, fs, ex, ea, l, q⟩ => ?_) ht
  subst ex
  obtain rfl : u = Value.ref a := rx
  refine getmeth_ok I1 ea c hm l ?_
  exact PySem.W.callWith_K0 (first := [.ref a]) I1.kIn hm.kp (run_fnS (us := [.ref a]) (vs := [.ref a]) F hr hb (hx σ) I1 (.cons rfl .nil) q)
end
def methR (i : Nat) (C : Addr) (mn : Str) (fs : Fs) (ga : Rho → Out (List Ar)) : Rho → Out R := fun ρ => match insAt i C ρ with
  | some fl => if (fl.lookup mn).isNone = true then callR fs (arSlot i ga) ρ else .stuck
  | none => .stuck
def eMeth (i : Nat) (C : Addr) (mn : Str) (fs : Fs) (ga : Rho → Out (List Ar)) : Rho → Out D := fun ρ => (methR i C mn fs ga ρ).bind fun r ρ1 => match r with
  | .val d => .ok d ρ1
  | _ => .stuck
def oMeth (i : Nat) (C : Addr) (mn : Str) (fs : Fs) (ga : Rho → Out (List Ar)) : Rho → Out O := fun ρ => (methR i C mn fs ga ρ).bind fun r ρ1 => match r with
  | .own o => .ok o ρ1
  | _ => .stuck
section
variable {X : Cx} {m : Fm} {W : WX} {C : Addr} {k j : Nat} {mn x : Str} {fs : Fs} {ga : Rho → Out (List Ar)} {p apos pos : Pos} {e : Expr} {es : List Expr}
/-- the promise of a method's call -/
theorem meth_of {i : Nat} {σ : St} {H : Hp} {Q : VK} (h : tX X.K m W (methR i C mn fs ga) (fun r ρ' F' H' => ∀ v, (match r with | .val d => Rep X.K F' d v | .own o => ∃ p ho, v = .ref p ∧ Aside m F' ρ' σ H' p ho ∧ RepO X.K F' o ho) → Q v H') σ H) :
    tMethS C mn (spF X.K fs) (WE W) (tVar i) (tAr X.K m W ga) σ H Q := by
  obtain ⟨F, ρ, r, a⟩ := h
  unfold methR at a
  cases e1 : insAt i C ρ with
  | none => rw [e1] at a; exact a.elim
  | some fl =>
    rw [e1] at a
    dsimp only at a
    split at a
    · rename_i hn
      obtain ⟨c, dx, ys, q1, q2, q3, _⟩ := r.insOwn e1
      have l := q3.look_none (by simpa using hn)
      have z : tCallS (spF X.K fs) (WE W) (tAr X.K m W (arSlot i ga)) σ H Q := lent_of ⟨F, ρ, r, a⟩
      refine ⟨_, q1, c, dx, ys, rfl, q2, l, ?_⟩
      obtain ⟨F', ρ', r', a'⟩ := z
      unfold arSlot at a'
      split at a'
      · rename_i b o e2
        obtain ⟨c', ho, w1, w2, w3, w4, w5⟩ := r'.own_at e2
        rw [q1] at w1
        cases w1
        exact ⟨F', ρ', r', (Aft.bind a').imp fun ds ρ2 F2 H2 r2 s2 a2 vs rvs => a2 F2 H2 r2 (Same.refl _) _ ⟨_, vs, rfl, q1, rvs⟩⟩
      · exact a'.elim
    · exact a.elim
theorem meth_val {i : Nat} {σ : St} {H : Hp} {Q : VK} (h : tD X.K m W (eMeth i C mn fs ga) σ H Q) : tMethS C mn (spF X.K fs) (WE W) (tVar i) (tAr X.K m W ga) σ H Q := meth_of (by
  obtain ⟨F, ρ, r, a⟩ := h
  refine ⟨F, ρ, r, (Aft.bind a).imp fun rr ρ1 F1 H1 r1 s1 a1 v rv => ?_⟩
  cases rr with
  | val d => exact a1 F1 H1 r1 (Same.refl _) v rv
  | own o => exact a1.elim)
theorem meth_own {i : Nat} {σ : St} {H : Hp} {Q : VK} (h : tO X.K m W (oMeth i C mn fs ga) σ H Q) : tMethS C mn (spF X.K fs) (WE W) (tVar i) (tAr X.K m W ga) σ H Q := meth_of (by
  obtain ⟨F, ρ, r, a⟩ := h
  refine ⟨F, ρ, r, (Aft.bind a).imp fun rr ρ1 F1 H1 r1 s1 a1 v rv => ?_⟩
  cases rr with
  | val d => exact a1.elim
  | own o =>
    obtain ⟨c, ho, e, z1, z2⟩ := rv
    subst e
    exact a1 F1 H1 r1 (Same.refl _) c ho z1 z2)
theorem d_meth {i : Nat} {pl : Sem Bool} (c : Cls X.K C) (q : MethC X.prog X.w X.K X.mg X.base C mn k fs) (hr : Room j X.A) (tk : Takes X W) (ha : DAr X m W (e :: es) ga) (hk : k ≤ j := by decide) (hN : X.N[i]? = some x := by rfl) (hv : Vis X.env.scope x := by first | exact Or.inl rfl | exact Or.inr (Or.inl rfl) | exact Or.inr (Or.inr rfl))
    (hd : (x == ("__debug__" : Str)) = false := by decide) (hcd : (x == ("__classdict__" : Str)) = false := by decide)
    (hst : starEach (e :: es) X.env = (false, eval e X.env) :: starEach es X.env := by rfl) (hpl : (backTo pos (starEach es X.env)).any (·.1) = false := by rfl)
    (ht : eval (.Call (.Attribute (.Name x p) mn apos) (e :: es) [] pos) X.env = (do
      let ov ← eval (.Name x p) X.env
      standAt apos.atName
      let (f, first) ← holding [ov] (getMethod ov mn pl)
      callWith pos f first (backTo pos (starEach (e :: es) X.env)) (backToKw pos (keywordEach [] X.env))) := by rfl) :
    DE X m W (.Call (.Attribute (.Name x p) mn apos) (e :: es) [] pos) (eMeth i C mn fs ga) := by
  obtain ⟨f, fd, ps, h1, h2, h3⟩ := q.ex
  exact PE.imp (pe_methS (pl := pl) (pv i hN hv hd hcd) c h1 h3 (hr.mono hk) h2 (fun σ => passAt tk σ) ha hst hpl ht) fun σ H Q h => meth_val h
theorem o_meth {i : Nat} {pl : Sem Bool} (c : Cls X.K C) (q : MethC X.prog X.w X.K X.mg X.base C mn k fs) (hr : Room j X.A) (tk : Takes X W) (ha : DAr X m W (e :: es) ga) (hk : k ≤ j := by decide) (hN : X.N[i]? = some x := by rfl) (hv : Vis X.env.scope x := by first | exact Or.inl rfl | exact Or.inr (Or.inl rfl) | exact Or.inr (Or.inr rfl))
    (hd : (x == ("__debug__" : Str)) = false := by decide) (hcd : (x == ("__classdict__" : Str)) = false := by decide)
    (hst : starEach (e :: es) X.env = (false, eval e X.env) :: starEach es X.env := by rfl) (hpl : (backTo pos (starEach es X.env)).any (·.1) = false := by rfl)
    (ht : eval (.Call (.Attribute (.Name x p) mn apos) (e :: es) [] pos) X.env = (do
      let ov ← eval (.Name x p) X.env
      standAt apos.atName
      let (f, first) ← holding [ov] (getMethod ov mn pl)
      callWith pos f first (backTo pos (starEach (e :: es) X.env)) (backToKw pos (keywordEach [] X.env))) := by rfl) :
    DEO X m W (.Call (.Attribute (.Name x p) mn apos) (e :: es) [] pos) (oMeth i C mn fs ga) := by
  obtain ⟨f, fd, ps, h1, h2, h3⟩ := q.ex
  exact PE.imp (pe_methS (pl := pl) (pv i hN hv hd hcd) c h1 h3 (hr.mono hk) h2 (fun σ => passAt tk σ) ha hst hpl ht) fun σ H Q h => meth_own h
theorem d_meth0 {i : Nat} {pl : Sem Bool} (c : Cls X.K C) (q : MethC X.prog X.w X.K X.mg X.base C mn k fs) (hr : Room j X.A) (tk : Takes X W) (hk : k ≤ j := by decide) (hN : X.N[i]? = some x := by rfl) (hv : Vis X.env.scope x := by first | exact Or.inl rfl | exact Or.inr (Or.inl rfl) | exact Or.inr (Or.inr rfl))
    (hd : (x == ("__debug__" : Str)) = false := by decide) (hcd : (x == ("__classdict__" : Str)) = false := by decide)
    (ht : eval (.Call (.Attribute (.Name x p) mn apos) [] [] pos) X.env = (do
      let ov ← eval (.Name x p) X.env
      standAt apos.atName
      let (f, first) ← holding [ov] (getMethod ov mn pl)
      callWith pos f first (backTo pos (starEach [] X.env)) (backToKw pos (keywordEach [] X.env))) := by rfl) :
    DE X m W (.Call (.Attribute (.Name x p) mn apos) [] [] pos) (eMeth i C mn fs arNil) := by
  obtain ⟨f, fd, ps, h1, h2, h3⟩ := q.ex
  refine PE.imp (pe_meth0S (pl := pl) (pv i hN hv hd hcd) c h1 h3 (hr.mono hk) h2 (fun σ => passAt tk σ) ht) fun σ H Q h => ?_
  obtain ⟨v, q1, a, dx, ys, e1, e2, e3, q2⟩ := meth_val h
  exact ⟨v, q1, a, dx, ys, e1, e2, e3, tar_nil q2⟩
/-- x.f += e, whole numbers -/
def sFldAdd (i : Nat) (C : Addr) (f : Str) (g : Rho → Out D) : Rho → Fl := fun ρ => match insAt i C ρ with
  | some fs => match fs.lookup f with
    | some (.int a) => (g ρ).fl fun d ρ1 => match d, insAt i C ρ1 with
      | .int b, some fs1 => if fs1.length < 900 then .nx (setO i (.ins C (putFD f (.int (a + b)) fs1)) ρ1) else .stuck
      | _, _ => .stuck
    | _ => .stuck
  | none => .stuck
theorem s_fldAdd {i : Nat} {f : Str} {g : Rho → Out D} {tpos : Pos} (c : Cls X.K C) (n : NoAttr X.K C f) (he : DE X m W e g) (hN : X.N[i]? = some x := by rfl) (hv : Vis X.env.scope x := by first | exact Or.inl rfl | exact Or.inr (Or.inl rfl) | exact Or.inr (Or.inr rfl)) (hd : (x == ("__debug__" : Str)) = false := by decide)
    (hcd : (x == ("__classdict__" : Str)) = false := by decide) : DS X m W (.AugAssign (.Attribute (.Name x p) f tpos) .Add e pos) (sFldAdd i C f g) := PS.imp (ps_fldaug (pv i hN hv hd hcd) he in_add) fun Dn σ H h => by
  obtain ⟨F, ρ, r, a⟩ := h
  unfold sFldAdd at a
  cases e1 : insAt i C ρ with
  | none => rw [e1] at a; exact a.elim
  | some fl =>
    rw [e1] at a
    dsimp only at a
    split at a
    · rename_i z el
      obtain ⟨b, dx, ys, q1, q2, q3, _⟩ := r.insOwn e1
      obtain ⟨v, l, rv⟩ := q3.look el
      have : v = .int z := rv
      subst this
      refine ⟨_, q1, b, C, dx, ys, .int z, rfl, q2, c, n, l, F, ρ, r, (Aft.fl a).imp fun d ρ1 F1 H1 r1 s1 a1 w rw' => ?_⟩
      split at a1
      · rename_i y fs1 e2
        split at a1
        · rename_i hz
          obtain ⟨b', dx', zs, w1, w2, w3, w4⟩ := r1.insOwn e2
          rw [q1] at w1
          cases w1
          have : w = .int y := rw'
          subst this
          exact ⟨z, y, rfl, rfl, dx', zs, w2, by rw [w3.len]; omega, a1 F1 σ _ (w4 _ _ (w3.putF (show Rep X.K F1 (.int (z + y)) (.int (z + y)) from rfl))) (Same.refl _)⟩
        · exact a1.elim
      · exact a1.elim
    · exact a.elim
end
end Lt

/-! # A method of what a call hands back -/
namespace Lt
open PySem PySem.Spec L2
section
variable {K : PySem.W.Frag} {m : Fm} {F F' : Hp} {ρ : Rho} {σ : St} {H H' : Hp}
/-- the heap grows, an object that no name holds changes -/
theorem Rel.grownA (r : Rel K m F ρ σ H) {p : Addr} {ho : HO} (as : Aside m F ρ σ H p ho) (e : Same F F') (s : Same F' H') (k : ∀ b o, b ≠ p → H b = some o → H' b = some o) (g : ∀ a, F' a ≠ none → F a ≠ none ∨ H a = none) : Rel K m F' ρ σ H' where
  sub0 := r.sub0.trans e
  sub := s
  prot := fun b o h n => k _ _ (fun z => by subst z; rw [as.he] at h; cases h) (r.prot b o h n)
  grow := fun a h => by
    rcases g a h with q | q
    · exact r.grow a q
    · cases z : m.He a with
      | none => exact .inr rfl
      | some o =>
        by_cases hb : a ∈ m.B
        · exact absurd q (r.bor a hb).1
        · rw [r.prot a o z hb] at q; cases q
  bor := fun a h => by
    obtain ⟨h1, h2⟩ := r.bor a h
    cases z : H a with
    | none => exact absurd z h1
    | some o =>
      refine ⟨by rw [k _ _ (fun y => as.nb (y ▸ h)) z]; simp, ?_⟩
      cases q : F' a with
      | none => rfl
      | some u =>
        rcases g a (by rw [q]; simp) with y | y
        · exact absurd h2 y
        · rw [z] at y; cases y
  len := r.len
  slot := fun i s' h => by
    obtain ⟨ov, h1, h2⟩ := r.slot i s' h
    refine ⟨ov, h1, ?_⟩
    cases s' with
    | no => trivial
    | exn _ _ => exact h2
    | val d =>
      obtain ⟨v, q1, q2⟩ := h2
      exact ⟨v, q1, Rep.mono e _ _ q2⟩
    | own b o =>
      obtain ⟨a, h0, q1, q2, q3, q4, q5⟩ := h2
      have ne : a ≠ p := fun z => by
        subst z
        subst q1
        exact as.ns i b o h h1
      refine ⟨a, h0, q1, k _ _ ne q2, RepO.mono e q3, ?_, q5⟩
      cases z : F' a with
      | none => rfl
      | some u =>
        rcases g a (by rw [z]; simp) with y | y
        · exact absurd q4 y
        · rw [q2] at y; cases y
  dist := r.dist
  bh := r.bh
end
def eMethT (C : Addr) (mn : Str) (fs : Fs) (go : Rho → Out O) (gs : Rho → Out (List D)) : Rho → Out D := fun ρ => (go ρ).bind fun o ρ1 => match o with
  | .ins C' fl => if C' = C ∧ (fl.lookup mn).isNone = true then (gs ρ1).bind fun ds ρ2 => match fs (.own (.ins C' fl) :: ds.map R.val) with
    | .ok (.val d) _ => .ok d ρ2
    | .exc C2 ns xs _ => .exc C2 ns xs ρ2
    | _ => .stuck
    else .stuck
  | _ => .stuck
section
variable {X : Cx} {m : Fm} {W : WX} {C : Addr} {k j : Nat} {mn : Str} {fs : Fs} {go : Rho → Out O} {gs : Rho → Out (List D)} {o : Expr} {apos pos : Pos} {e : Expr} {es : List Expr}
theorem methT_of {σ : St} {H : Hp} {Q : VK} (h : tD X.K m W (eMethT C mn fs go gs) σ H Q) : tMethS C mn (spF X.K fs) (WE W) (tO X.K m W go) (fun σ H Q => ∃ m, tL X.K m W gs σ H Q) σ H Q := by
  obtain ⟨F, ρ, r, a⟩ := h
  refine ⟨F, ρ, r, (Aft.bind a).imp fun o ρ1 F1 H1 r1 s1 a1 p ho as ro => ?_⟩
  cases o <;> try exact a1.elim
  rename_i C' fl
  dsimp only at a1
  split at a1
  rotate_left
  · exact a1.elim
  rename_i hz
  obtain ⟨rfl, hn⟩ := hz
  have ro0 := ro
  obtain ⟨dx, ys, rfl, q3⟩ := ro
  have l := q3.look_none (by simpa using hn)
  refine ⟨p, dx, ys, rfl, as.at_, l, m.put p (.ins C' dx ys), F1, ρ1, r1.aside as, ?_⟩
  have h0 : m.F0 p = none := by
    cases z : m.F0 p with
    | none => rfl
    | some u => have := r1.sub0 _ _ z; rw [as.fz] at this; cases this
  cases e1 : gs ρ1 with
  | stuck => rw [e1] at a1; exact a1.elim
  | exc C ns ds ρ' => rw [e1] at a1; exact fun F' H' dd r' s' x => a1 F' H' dd (r'.unaside as.he as.nb h0).1 s' (x.he fun _ n => Fm.put_none as.he n)
  | ok ds ρ' =>
    rw [e1, bind_ok] at a1
    intro F' H' r' s' vs rvs
    obtain ⟨r2, a2⟩ := r'.unaside as.he as.nb h0
    have key : ∀ {ds : List D} {vs : List V} {H2 : Hp}, Reps X.K F' ds vs → ArgsOk X.K F' H2 (ds.map R.val) vs := by
      intro ds
      induction ds with
      | nil => intro vs H2 h; exact h
      | cons d ds ih =>
        intro vs H2 h
        obtain ⟨y, t, e, h1, h2⟩ := h
        exact ⟨y, t, e, h1, ih h2⟩
    refine ⟨F', .own (.ins C' fl) :: ds.map R.val, r2.sub, ⟨p, _, vs, rfl, a2.at_, RepO.mono s' ro0, a2.fz, key rvs⟩, ?_, ?_⟩
    · show (p :: ownA (ds.map R.val) vs).Nodup
      rw [own_vals]
      simp
    · have back : ∀ {F2 H2 : Hp} {bs : List R}, Post X.K F' H' (.own (.ins C' fl) :: ds.map R.val) (.ref p :: vs) F2 H2 bs → Rel X.K m F2 ρ' σ H2 := by
        intro F2 H2 bs po
        refine r2.grownA a2 po.fz po.sub (fun b o' ne hb => po.keep b o' hb ?_) po.grow
        show b ∉ p :: ownA (ds.map R.val) vs
        rw [own_vals]
        simpa using ne
      cases ef : fs (.own (.ins C' fl) :: ds.map R.val) with
      | stuck => rw [ef] at a1; exact a1.elim
      | exc C2 ns xs bs =>
        rw [ef] at a1
        exact fun F2 H2 dd po x' => a1 F2 H2 dd (back po) (s'.trans po.fz) (x'.he fun d n => r2.he_none n)
      | ok rr bs =>
        rw [ef] at a1
        intro F2 H2 v po rv
        cases rr with
        | val d => exact a1 F2 H2 (back po) (s'.trans po.fz) v rv
        | own o' => exact a1.elim
theorem d_methT {pl : Sem Bool} (c : Cls X.K C) (q : MethC X.prog X.w X.K X.mg X.base C mn k fs) (hr : Room j X.A) (tk : Takes X W) (ho : DEO X m W o go) (ha : ∀ m, DL X m W (e :: es) gs) (hk : k ≤ j := by decide)
    (hst : starEach (e :: es) X.env = (false, eval e X.env) :: starEach es X.env := by rfl) (hpl : (backTo pos (starEach es X.env)).any (·.1) = false := by rfl)
    (ht : eval (.Call (.Attribute o mn apos) (e :: es) [] pos) X.env = (do
      let ov ← eval o X.env
      standAt apos.atName
      let (f, first) ← holding [ov] (getMethod ov mn pl)
      callWith pos f first (backTo pos (starEach (e :: es) X.env)) (backToKw pos (keywordEach [] X.env))) := by rfl) :
    DE X m W (.Call (.Attribute o mn apos) (e :: es) [] pos) (eMethT C mn fs go gs) := by
  obtain ⟨f, fd, ps, h1, h2, h3⟩ := q.ex
  have hr' : PA X (e :: es) (fun σ H Q => ∃ m, tL X.K m W gs σ H Q) := ⟨fun pos pins s σ H Q I ⟨m, q⟩ => (ha m).run pos pins s σ H Q I q⟩
  exact PE.imp (pe_methS (pl := pl) ho c h1 h3 (hr.mono hk) h2 (fun σ => passAt tk σ) hr' hst hpl ht) fun σ H Q h => methT_of h
end
end Lt

/-! # A comprehension whose list is an own object -/
namespace Lt
open PySem PySem.Spec L2
def oLcQ (vs : List Nat) (gs : Rho → Out (List D)) (gt : D → Rho → Option Rho) (t : Rho → Out Bool) (ge : Rho → Out D) : Rho → Out O := fun ρ => (gs ρ).bind fun ds ρ1 => match lcD vs gt t ge ds [] ρ1 with
  | .ok (.lst xs) ρ2 => .ok (.lst xs) ρ2
  | _ => .stuck
@[simp] theorem rd_lcO {vs : List Nat} {gs : Rho → Out (List D)} {gt : D → Rho → Option Rho} {t : Rho → Out Bool} {ge : Rho → Out D} {ρ : Rho} : oLcQ vs gs gt t ge ρ = (gs ρ).bind fun ds ρ1 => match lcD vs gt t ge ds [] ρ1 with
  | .ok (.lst xs) ρ2 => .ok (.lst xs) ρ2
  | _ => .stuck := (rfl)
section
variable {K : PySem.W.Frag} {m : Fm} {W : WX}
theorem lcO_of {wi : TI} {vs : List Nat} {gs : Rho → Out (List D)} {gt : D → Rho → Option Rho} {t : Rho → Out Bool} {ge : Rho → Out D} {g : TG} {tt : TT} {te : TE} (hi : ∀ σ H Rr, tI K m W gs σ H Rr → wi σ H Rr)
    (hg : ∀ m v σ H Q, tGv K m vs gt v σ H Q → g v σ H Q) (ht : ∀ m σ H Q, tBl K m W0 t σ H Q → tt σ H Q) (he : ∀ m σ H Q, tD K m W0 ge σ H Q → te σ H Q)
    {σ : St} {H : Hp} {Q : VK} (h : tO K m W (oLcQ vs gs gt t ge) σ H Q) : tLc wi g tt te vs σ H Q := by
  obtain ⟨F, ρ, r, a⟩ := h
  refine hi _ _ _ ⟨F, ρ, r, (Aft.bind a).imp fun ds ρ1 F1 H1 r1 s1 a1 J hJ Dd nd => ?_⟩
  -- the loop's outcome
  have a1' : ∃ d ρe, lcD vs gt t ge ds [] ρ1 = .ok d ρe ∧ ∀ F' H', Rel K m F' ρe σ H' → Same F1 F' → ∀ p ho, (∃ xs, d = .lst xs) → Aside m F' ρe σ H' p ho → (∀ xs, d = .lst xs → RepO K F' (.lst xs) ho) → Q (.ref p) H' := by
    cases e : lcD vs gt t ge ds [] ρ1 with
    | ok d ρe =>
      rw [e] at a1
      refine ⟨d, ρe, rfl, fun F' H' r' s' p ho hx as ro => ?_⟩
      obtain ⟨xs, rfl⟩ := hx
      exact a1 F' H' r' s' p ho as (ro xs rfl)
    | exc C ns xs ρe => rw [e] at a1; exact a1.elim
    | stuck => rw [e] at a1; exact a1.elim
  obtain ⟨dd, ρe, e0, fin⟩ := a1'
  have hD0 : m.F0 Dd = none := by
    cases z : m.F0 Dd with
    | none => rfl
    | some u => rw [r1.sub _ _ (r1.sub0 _ _ z)] at nd; cases nd
  obtain ⟨rn, an⟩ := r1.aside_new nd (.lst [])
  have hw : ∀ {σ1 : St}, wipe σ1 vs = wipe σ vs → σ1.length = σ.length → ∀ i, i ∉ vs → (wipe σ vs)[i]? = σ1[i]? := fun e _ i hi => by rw [← e]; exact wipe_at hi
  refine ⟨fun i n H2 => ∃ F2 ρ2 acc xs, n = ds.length - i ∧ i ≤ ds.length ∧ Same F1 F2 ∧ Rel K m F2 (clr ρ2 vs) (wipe σ vs) H2 ∧ Aside m F2 (clr ρ2 vs) (wipe σ vs) H2 Dd (.lst xs) ∧ Reps K F2 acc xs ∧ lcD vs gt t ge (ds.drop i) acc ρ2 = .ok dd ρe,
    ⟨ds.length, F1, ρ1, [], [], by simp, Nat.zero_le _, Same.refl _, rn.clr (wipe_length _ _) (fun i hi => wipe_at hi), ⟨an.at_, an.fz, an.he, an.nb, fun j b o' h1 h2 => ?_⟩, rfl, by simpa using e0⟩, ?_⟩
  · rcases clr_at h1 with z | ⟨q1, q2⟩
    · cases z
    · rw [wipe_at q2] at h2
      exact an.ns j b o' q1 h2
  rintro i n H2 ⟨F2, ρ2, acc, xs, rfl, hi, s2, r2, a2, rx, e2⟩
  obtain ⟨j1, j2⟩ := hJ i F2 H2 s2 r2.sub
  by_cases hlt : i < ds.length
  · have hd : ds[i]? = some ds[i] := List.getElem?_eq_getElem hlt
    obtain ⟨go, yl⟩ := j1 _ hd
    rw [List.drop_eq_getElem_cons hlt] at e2
    unfold lcD at e2
    refine .inr ⟨go, fun H' => ∃ F2 ρ2 acc xs, Same F1 F2 ∧ Rel K m F2 (clr ρ2 vs) (wipe σ vs) H' ∧ Aside m F2 (clr ρ2 vs) (wipe σ vs) H' Dd (.lst xs) ∧ Reps K F2 acc xs ∧ lcD vs gt t ge (ds.drop (i + 1)) acc ρ2 = .ok dd ρe,
      fun H' ⟨F', ρ', acc', xs', q1, q2, q3, q4, q5⟩ => ⟨ds.length - (i + 1), by omega, F', ρ', acc', xs', rfl, hlt, q1, q2, q3, q4, q5⟩, fun x H' hy => ?_⟩
    -- in the frame that keeps the list
    have rk := r2.aside a2
    have yl' := yl x H' hy
    obtain ⟨F3, r3, s3, q⟩ := rk.yields yl'
    cases e1 : gt ds[i] (clr ρ2 vs) with
    | none => rw [e1] at e2; cases e2
    | some ρ3 =>
      rw [e1] at e2
      dsimp only at e2
      refine hg _ _ _ _ _ ⟨F3, clr ρ2 vs, ds[i], r3, q, ?_⟩
      rw [e1]
      refine fun σ3 r4 w3 => ?_
      have w3' : wipe σ3 vs = wipe σ vs := by
        rw [w3]
        refine List.ext_getElem? fun j => ?_
        by_cases hj : j ∈ vs
        · have z : ∀ (τ : St) (us : List Nat), j ∈ us → (wipe τ us)[j]? = if j < τ.length then some none else none := by
            intro τ us
            induction us with
            | nil => intro h; cases h
            | cons u us ih =>
              intro h
              show ((wipe τ us).set u none)[j]? = _
              by_cases e : u = j
              · subst e
                by_cases hl : u < τ.length
                · rw [List.getElem?_set_self (by rw [wipe_length]; exact hl), if_pos hl]
                · rw [List.getElem?_eq_none (by rw [List.length_set, wipe_length]; omega), if_neg hl]
              · rw [List.getElem?_set_ne e]
                exact ih ((List.mem_cons.mp h).resolve_left (Ne.symm e))
          rw [z _ _ hj, z _ _ hj, wipe_length]
        · rw [wipe_at hj]
      refine ⟨w3', ht _ _ _ _ ⟨F3, ρ3, r4, ?_⟩⟩
      have hl3 : σ3.length = σ.length := by rw [← wipe_length σ3 vs, w3', wipe_length]
      -- the way on, from any state of the frame that keeps the list
      have on : ∀ {F5 H5 : Hp} {ρ5 : Rho}, Same F3 F5 → Rel K (m.put Dd (.lst xs)) F5 ρ5 σ3 H5 → Rel K m F5 (clr ρ5 vs) (wipe σ vs) H5 ∧ Aside m F5 (clr ρ5 vs) (wipe σ vs) H5 Dd (.lst xs) := fun {F5 H5 ρ5} s5 r5 => by
        obtain ⟨r6, a6⟩ := r5.unaside an.he an.nb hD0
        refine ⟨r6.clr (by rw [wipe_length, hl3]) (fun j hj => hw w3' hl3 j hj), ⟨a6.at_, a6.fz, a6.he, a6.nb, fun j b o' h1 h2 => ?_⟩⟩
        rcases clr_at h1 with z | ⟨q1, q2⟩
        · cases z
        · rw [hw w3' hl3 j q2] at h2
          exact a6.ns j b o' q1 h2
      cases et : t ρ3 with
      | stuck => rw [et] at e2; cases e2
      | exc C ns ds' ρ' => rw [et] at e2; cases e2
      | ok b ρ4 =>
        rw [et] at e2
        intro F4 H4 r5 s4
        show if b = true then _ else _
        cases b with
        | false =>
          rw [bind_ok, if_neg Bool.false_ne_true] at e2
          rw [if_neg Bool.false_ne_true]
          obtain ⟨r6, a6⟩ := on s4 r5
          exact ⟨F4, ρ4, acc, xs, (s2.trans s3).trans s4, r6, a6, Reps.mono (s3.trans s4) _ _ rx, e2⟩
        | true =>
          rw [bind_ok, if_pos rfl] at e2
          rw [if_pos rfl]
          refine he _ _ _ _ ⟨F4, ρ4, r5, ?_⟩
          cases ee : ge ρ4 with
          | stuck => rw [ee] at e2; cases e2
          | exc C ns ds' ρ' => rw [ee] at e2; cases e2
          | ok e ρ5 =>
            rw [ee, bind_ok] at e2
            intro F5 H5 r6 s5 v rv
            obtain ⟨r7, a7⟩ := on (s4.trans s5) r6
            split at e2
            · rename_i hz
              have rx5 := Reps.mono ((s3.trans s4).trans s5) _ _ rx
              obtain ⟨r8, a8⟩ := r7.change a7 (.lst (xs ++ [v]))
              exact ⟨xs, a7.at_, by rw [rx.len]; exact hz, F5, ρ5, acc ++ [e], xs ++ [v], ((s2.trans s3).trans s4).trans s5, r8, a8, rx5.snoc rv, e2⟩
            · cases e2
  · have e : i = ds.length := by omega
    subst e
    refine .inl ⟨j2 (Nat.le_refl _), ?_⟩
    rw [List.drop_length] at e2
    unfold lcD at e2
    cases e2
    have r3 : Rel K m F2 (clr ρ2 vs) σ H2 := by
      have q := r2.clr (vs := vs) (σ' := σ) (by rw [wipe_length]) fun i hi => (wipe_at hi).symm
      have e : clr (clr ρ2 vs) vs = clr ρ2 vs := by
        refine List.ext_getElem? fun j => ?_
        have z : ∀ (τ : Rho) (us : List Nat), j ∈ us → (clr τ us)[j]? = if j < τ.length then some .no else none := by
          intro τ us
          induction us with
          | nil => intro h; cases h
          | cons u us ih =>
            intro h
            show ((clr τ us).set u .no)[j]? = _
            by_cases e : u = j
            · subst e
              by_cases hl : u < τ.length
              · rw [List.getElem?_set_self (by rw [clr_length]; exact hl), if_pos hl]
              · rw [List.getElem?_eq_none (by rw [List.length_set, clr_length]; omega), if_neg hl]
            · rw [List.getElem?_set_ne e]
              exact ih ((List.mem_cons.mp h).resolve_left (Ne.symm e))
        have z2 : ∀ (τ : Rho) (us : List Nat), j ∉ us → (clr τ us)[j]? = τ[j]? := by
          intro τ us
          induction us with
          | nil => intro _; rfl
          | cons u us ih =>
            intro h
            show ((clr τ us).set u .no)[j]? = _
            rw [List.getElem?_set_ne (fun e : u = j => h (by rw [e]; exact List.mem_cons_self))]
            exact ih fun q => h (List.mem_cons_of_mem _ q)
        by_cases hj : j ∈ vs
        · rw [z _ _ hj, z _ _ hj, clr_length]
        · rw [z2 _ _ hj]
      rw [e] at q
      exact q
    have a3 : Aside m F2 (clr ρ2 vs) σ H2 Dd (.lst xs) := ⟨a2.at_, a2.fz, a2.he, a2.nb, fun j b o' h1 h2 => by
      rcases clr_at h1 with z | ⟨q1, q2⟩
      · cases z
      · exact a2.ns j b o' h1 (by rw [wipe_at q2]; exact h2)⟩
    exact fin _ _ r3 s2 _ _ ⟨_, rfl⟩ a3 fun ys e => by cases e; exact ⟨xs, rfl, rx⟩
end
section
variable {X : Cx} {m : Fm} {W : WX}
theorem o_lc {elt tg iter : Expr} {ifs : List Expr} {scope : Scope} {own : List (Str × Nat)} {pos : Pos} {gs : Rho → Out (List D)} {gt : D → Rho → Option Rho} {t : Rho → Out Bool} {ge : Rho → Out D} (hc : X.calm = true) (hN : X.N.Nodup) (ok : BlkOk X.N X.env.scope scope own) (hi : DI X m W tg iter gs)
    (hg : ∀ (m : Fm) (s : Shared) (H : Hp) (C : Addr) (cl : List (Str × Addr)) (fp : List Addr), DGv (X.blk s H scope (compEnvC scope cl C X.env) fp) m (own.map (·.2)) tg gt) (ht : ∀ (m : Fm) (s : Shared) (H : Hp) (C : Addr) (cl : List (Str × Addr)) (fp : List Addr), DTs (X.blk s H scope (compEnvC scope cl C X.env) fp) m W0 ifs t)
    (he : ∀ (m : Fm) (s : Shared) (H : Hp) (C : Addr) (cl : List (Str × Addr)) (fp : List Addr), DE (X.blk s H scope (compEnvC scope cl C X.env) fp) m W0 elt ge) (hs : ∀ x, foldedSetIterable iter X.env x = pure x := by intro _; rfl) :
    DEO X m W (.ListComp elt [⟨tg, iter, ifs, 0⟩] scope pos) (oLcQ (own.map (·.2)) gs gt t ge) :=
  PE.imp (pe_lc (g := fun v σ H Q => ∃ m, tGv X.K m (own.map (·.2)) gt v σ H Q) (tt := fun σ H Q => ∃ m, tBl X.K m W0 t σ H Q) (te := fun σ H Q => ∃ m, tD X.K m W0 ge σ H Q) hc hN hi ok
    (fun s H C cl fp => ⟨fun pins s' σ H' v u Q I r ⟨m, q⟩ => (hg m s H C cl fp).run pins s' σ H' v u Q I r q⟩) (fun s H C cl fp => ⟨fun pins s' σ H' Q I ⟨m, q⟩ => (ht m s H C cl fp).run pins s' σ H' Q I q⟩)
    (fun s H C cl fp => ⟨fun pins s' σ H' Q I ⟨m, q⟩ => (he m s H C cl fp).run pins s' σ H' Q I q⟩) hs) fun σ H Q h => lcO_of (fun _ _ _ => id) (fun m _ _ _ _ q => ⟨m, q⟩) (fun m _ _ _ q => ⟨m, q⟩) (fun m _ _ _ q => ⟨m, q⟩) h
theorem s_setLcO {i : Nat} {y : Str} {py : Pos} {elt tg iter : Expr} {ifs : List Expr} {scope : Scope} {own : List (Str × Nat)} {pos spos : Pos} {gs : Rho → Out (List D)} {gt : D → Rho → Option Rho} {t : Rho → Out Bool} {ge : Rho → Out D} (hc : X.calm = true) (hN : X.N.Nodup) (hy : X.N[i]? = some y) (hyl : X.env.scope.names.lookup y = some .local)
    (hsw : swapsWith (.ListComp elt [⟨tg, iter, ifs, 0⟩] scope pos) (some (.Name y py)) spos.line X.env = pure true) (ok : BlkOk X.N X.env.scope scope own) (hi : DI X m W tg iter gs)
    (hg : ∀ (m : Fm) (s : Shared) (H : Hp) (C : Addr) (cl : List (Str × Addr)) (fp : List Addr), DGv (X.blk s H scope (compEnvC scope cl C X.env) fp) m (own.map (·.2)) tg gt) (ht : ∀ (m : Fm) (s : Shared) (H : Hp) (C : Addr) (cl : List (Str × Addr)) (fp : List Addr), DTs (X.blk s H scope (compEnvC scope cl C X.env) fp) m W0 ifs t)
    (he : ∀ (m : Fm) (s : Shared) (H : Hp) (C : Addr) (cl : List (Str × Addr)) (fp : List Addr), DE (X.blk s H scope (compEnvC scope cl C X.env) fp) m W0 elt ge) (hs : ∀ x, foldedSetIterable iter X.env x = pure x := by intro _; rfl) :
    DS X m W (.Assign [.Name y py] (.ListComp elt [⟨tg, iter, ifs, 0⟩] scope pos) spos) (sSetO i (oLcQ (own.map (·.2)) gs gt t ge)) :=
  PS.imp (ps_setLc (g := fun v σ H Q => ∃ m, tGv X.K m (own.map (·.2)) gt v σ H Q) (tt := fun σ H Q => ∃ m, tBl X.K m W0 t σ H Q) (te := fun σ H Q => ∃ m, tD X.K m W0 ge σ H Q) hc hN hy hyl hsw hi ok
    (fun s H C cl fp => ⟨fun pins s' σ H' v u Q I r ⟨m, q⟩ => (hg m s H C cl fp).run pins s' σ H' v u Q I r q⟩) (fun s H C cl fp => ⟨fun pins s' σ H' Q I ⟨m, q⟩ => (ht m s H C cl fp).run pins s' σ H' Q I q⟩)
    (fun s H C cl fp => ⟨fun pins s' σ H' Q I ⟨m, q⟩ => (he m s H C cl fp).run pins s' σ H' Q I q⟩) hs) fun Dn σ H h => by
    obtain ⟨F, ρ, r, a⟩ := h
    refine lcO_of (gs := gs) (gt := gt) (t := t) (ge := ge) (W := W) (m := m) (fun _ _ _ => id) (fun m _ _ _ _ q => ⟨m, q⟩) (fun m _ _ _ q => ⟨m, q⟩) (fun m _ _ _ q => ⟨m, q⟩) ⟨F, ρ, r, (Aft.fl a).imp fun o ρ1 F1 H1 r1 s1 a1 p ho as ro => ?_⟩
    exact a1 F1 _ H1 (r1.storeO i as ro) (Same.refl _)
end
end Lt

/-! # != by the own == -/
namespace PySem.W
open PySem PySem.Spec PySem.Calls PyProof.Rows Builtin
section
variable {prog : Program} {w : World} {A A₀ : Around} {E : Value → Shared → Prop} {s : Shared} {K : Frag} {x C L f : Addr} {h₀ : Heap} {m : Str → Option Value} {ox : Obj} {od : Option Obj} {name : Str} {b tb : Value}
theorem slot_obj_ne : Slot "object" "__ne__" "object.__ne__" := .of (owner := "object") (n := "__ne__") (by rw [typeLookup_type, builtinLookup_eq_fast]; kernel_rfl) (by decide +kernel) (by decide +kernel) (by decide +kernel) (.inl (by decide +kernel)) (by rw [isSubtype_type]; kernel_rfl)
theorem ifBound_B {M : Model} {id : String} {args : List Value} {Q : Option Value → Shared → Prop} (hb : ∀ self, bindSpecial (.builtin id) self = pure (.builtin id, [self])) (X : K.In s.heap) (I : InstAt s.heap x ox C od) (hs : findIn K (.ref C) name = some (some (.builtin id)))
    (h : wpAny M A (call (.builtin id) (.ref x :: args)) (fun v => Q (some v)) E s) : wpAny M A (callSpecialIfBound? (.ref x) name args) Q E s := by
  simp only [callSpecialIfBound?, bindSpecialIfBound?]
  refine wpAny_holding (wpAny_bind (wpAny_bind (wpAny_bind (I.type.here ((looks_findIn X hs).here ?_)))))
  refine wpAny_bind (wpAny_askSetting (wpAny_ite ?_))
  have fin : wpAny M A (call (.builtin id) ([.ref x] ++ args) >>= fun v => pure (some v)) Q E s := wpAny_bind (wpAny_mono h (fun v s' h' => wpAny_pure h') fun _ _ h' => h')
  split
  · rw [hb]
    exact wpAny_bind (wpAny_pure (wpAny_pure (by exact fin)))
  · rw [hb]
    exact wpAny_tryCatch (wpAny_bind (wpAny_pure (wpAny_pure (by exact fin))))
theorem objNe_K (X : K.In s.heap) (I : InstAt s.heap x ox C od) (hs : findIn K (.ref C) "__eq__" = some (some (.ref f))) (hf : isFn K (.ref f) = true) (hu : A.units < cLine) {Q : Fin → Shared → Prop}
    (hcall : wpAny (model prog w) A (call (.ref f) [.ref x, b]) (fun v s' => ∃ c, v = .bool c ∧ Q (.done (.ret (.bool (!c)))) s') E s) :
    wpAny (model prog w) A (Builtin.«object.__ne__» ⟨[.ref x, b], []⟩) Q E s := by
  unfold Builtin.«object.__ne__»
  repeat (first
    | with_reducible refine wpAny_cRoomFor hu ?_
    | (refine wpAny_bind (m := callSpecialIfBound? (.ref x) (Str.ofString "__eq__") [b])
        (ifBound_K X I hs hf (wpAny_mono hcall (fun r s' hr => by
          obtain ⟨c, rfl, hq⟩ := hr
          repeat (first | exact hq | exact wpAny_pure hq | exact wpAny_truthy_bool hq | (refine wpAny_bind (m := truthy (.bool _)) (wpAny_truthy_bool ?_)) | wp_step)) fun _ _ e => e)))
    | wp_step)
theorem rich_ne_K {Q : Value → Shared → Prop} (hu : A.units + 1 < cLine) (F : Fr h₀ L s.heap m) (X₀ : K.In h₀) (I : InstAt s.heap x ox C od) (hb : Looks (model prog w) s.heap (typeOf b) tb) (hn : notFirst K C tb = true)
    (hne : findIn K (.ref C) "__ne__" = some (some (.builtin "object.__ne__"))) (hs : findIn K (.ref C) "__eq__" = some (some (.ref f))) (hf : isFn K (.ref f) = true) (hm : mroIn K C (.type "object") = some true)
    (h : wpAny (model prog w) A.in1 (call (.ref f) [.ref x, b]) (fun v s' => ∃ c, v = .bool c ∧ Q (.bool (!c)) s') E s) : wpAny (model prog w) A (richCompare .NotEq (.ref x) b) Q E s := by
  have X := X₀.keeps F.keep
  have sub : Looks (model prog w) s.heap (isInstance (.ref x) (.type "object")) true := I.type.andThen (looks_mroIn X hm)
  have one : wpAny (model prog w) A (tryCompare (.ref x) "__ne__" b) (fun r s' => ∃ v, r = some v ∧ Q v s') E s := by
    unfold tryCompare
    refine wpAny_bind (ifBound_B (fun self => slot_obj_ne.bind self) X I hne (wpAny_call (codeAny_call_builtin slot_obj_ne.plain PySem.F.cmpEntry_ne
      (@check_slot (model prog w) _ _ s "object.__ne__" "object" "__ne__" (.ref x) [b] [] _ PySem.F.cmpKind_ne PySem.F.cmpSplit_ne sub (PySem.F.cmpArgs_ne _ _)
        (objNe_K X I hs hf hu (wpAny_mono h (fun v s' hv => ?_) fun _ _ e => e))))))
    obtain ⟨c, rfl, hq⟩ := hv
    exact ⟨c, rfl, wpAny_pure ⟨_, rfl, hq⟩⟩
  unfold richCompare
  simp only [oneThing_ref]
  refine wpAny_holding (wpAny_bind (wpAny_cRoomFor (by omega) ?_))
  rw [cmpInfo_NotEq]
  dsimp only
  refine wpAny_bind (I.type.here (wpAny_bind (hb.here ?_)))
  split
  · rename_i q
    have e : subIn K tb (.ref C) = some false := by
      rcases Bool.or_eq_true_iff.mp hn with e | e
      · rw [beq_iff_eq.mp e] at q; simp at q
      · exact beq_iff_eq.mp e
    refine wpAny_bind ((looks_subIn X e).here ?_)
    simp only [Bool.false_eq_true, if_false]
    refine wpAny_bind (wpAny_mono one (fun r s' z => ?_) fun _ _ e => e)
    obtain ⟨v, rfl, hq⟩ := z
    exact wpAny_pure hq
  · refine wpAny_bind (wpAny_pure ?_)
    simp only [Bool.false_eq_true, if_false]
    refine wpAny_bind (wpAny_mono one (fun r s' z => ?_) fun _ _ e => e)
    obtain ⟨v, rfl, hq⟩ := z
    exact wpAny_pure hq
end
end PySem.W
namespace Lt
open PySem PySem.Spec L2 C8
section
variable {X : Cx} {m : Fm} {W : WX} {C : Addr} {k j : Nat} {fs : Fs} {l r : Expr} {tl tr : TE} {E : St → XK} {pos : Pos}
theorem pc_ownNe (c : IsC X.K C) (hn : PySem.W.findIn X.K (.ref C) "__ne__" = some (some (.builtin "object.__ne__"))) (q : EqC X.prog X.w X.K X.mg X.base C k fs) (sh : EqSh C fs) (hr : Room (k + 1) X.A) (hx : ∀ σ, PassesAt (L2.CX X.prog X.w) X σ (E σ)) (hl : PE X l tl) (hrr : PE X r tr) :
    PC X .NotEq l r (fun σ H Q => tCallS (spF X.K fs) E (tCons tl (tCons tr tNil)) σ H fun v H' => ∀ b, v = .bl b → Q (.bl (!b)) H') := by
  obtain ⟨f, fd, ps, h1, h2, h3, h4⟩ := q.ex
  refine ⟨fun pins s σ H Q I h => ?_⟩
  refine binT hl hrr I h fun v u s2 x y H2 I2 rx ry q => ?_
  obtain ⟨q, a, y', dx, gs, e, ha, hy⟩ := sh.spf q
  cases e
  cases (show v = Value.ref a from rx)
  obtain ⟨mA, J, _⟩ := ins_get I2.hok ha
  obtain ⟨od, J, _⟩ := J.look
  obtain ⟨mm, hF⟩ := I2.fr
  show wpAny (model X.prog X.w) X.A (richCompare .NotEq (.ref a) u) _ _ s2
  have e0 : Env0 X.prog X.w X.K X.mg X.base X.A.in1 X.stack s2 H2 := I2.env0.in1
  have hlen := h4.len _ _ _ _ q
  have main : ∀ {tb : Value}, PySem.W.Looks (model X.prog X.w) s2.heap (typeOf u) tb → PySem.W.notFirst X.K C tb = true → wpAny (model X.prog X.w) X.A (richCompare .NotEq (.ref a) u) (EP X pins σ Q) X.xe s2 := by
    intro tb lk nf
    refine PySem.W.rich_ne_K (tb := tb) (by have := hr.un; omega) hF I2.ok.mod.kin J lk nf hn h1 h2 c.ins.hm ?_
    have r2 : Vals [V.ref a, y] [Value.ref a, u] := Paired.cons (show RelV (.ref a) (.ref a) from rfl) (Paired.cons ry .nil)
    refine wpAny_call (codeAny_mono (h4.run X.A.in1 X.stack s2 H2 ⟨[.ref a, u], []⟩ [.ref a, u] [.ref a, y] _ (E σ) hr.in1 e0 (by
      have := h3 s2 [.ref a, u] I2.kIn (by simpa using hlen)
      simpa using this) r2 q) fun rr s' hq => ?_)
    cases rr with
    | error e => exact hx σ pins H2 s2 e s' I2 hq
    | ok fl =>
      cases fl with
      | ret w =>
        obtain ⟨z, H', I', rz, ⟨b, rfl⟩, qq⟩ := I2.after hq
        cases (show w = Value.bool b from rz)
        exact ⟨b, rfl, .bl (!b), H', I', rfl, qq b rfl⟩
      | next => exact False.elim hq
      | brk => exact False.elim hq
      | cont => exact False.elim hq
  rcases hy with ⟨b, dy, hs, rfl, hb⟩ | ⟨b, ks, rfl, hb⟩
  · cases (show u = Value.ref b from ry)
    obtain ⟨mB, J', _⟩ := ins_get I2.hok hb
    obtain ⟨od', J', _⟩ := J'.look
    exact main (tb := .ref C) J'.type (by simp [PySem.W.notFirst])
  · cases (show u = Value.ref b from ry)
    obtain ⟨_, _, vs, _, o, es, ep, g1, g2, _⟩ := (show ObjOk X.prog X.w H2 s2.heap b (.dK ks) from I2.hok b _ hb)
    exact main (tb := .type "dict") (by have z : PySem.W.Looks (model X.prog X.w) s2.heap (typeOf (.ref b)) o.cls := (PySem.W.Looks.ld g1).andThen .now; rw [g2.1] at z; exact z) c.nf
def notB : D → Option D
  | .bl b => some (.bl (!b))
  | _ => none
@[simp] theorem rd_notB (b : Bool) : notB (.bl b) = some (.bl (!b)) := (rfl)
theorem c_neV {gl gr : Rho → Out D} (c : IsC X.K C) (hn : PySem.W.findIn X.K (.ref C) "__ne__" = some (some (.builtin "object.__ne__"))) (q : EqC X.prog X.w X.K X.mg X.base C k fs) (sh : EqSh C fs) (hr : Room j X.A) (tk : Takes X W) (hl : DE X m W l gl) (hrr : DE X m W r gr) (hk : k + 1 ≤ j := by decide) :
    PC X .NotEq l r (tD X.K m W (eUn notB (eFnO fs (arVal gl (arVal gr arNil))))) :=
  PC.imp' (pc_ownNe c hn q sh (hr.mono hk) (fun σ => passAt tk σ) hl hrr) fun σ H Q q => by
    have q2 : tD X.K m W (eFnO fs (arVal gl (arVal gr arNil))) σ H (fun v H' => ∀ b, v = .bl b → Q (.bl (!b)) H') := by
      obtain ⟨F, ρ, r, a⟩ := q
      refine ⟨F, ρ, r, (Aft.bind a).imp fun d ρ1 F1 H1 r1 s1 a1 v rv b e => ?_⟩
      obtain ⟨d2, e2, h9⟩ := Aft.lift a1
      unfold notB at e2
      split at e2 <;> cases e2
      rename_i b'
      subst e
      have : V.bl b = .bl b' := rv
      cases this
      exact h9 F1 H1 r1 (Same.refl _) _ rfl
    have z : tCallS (spF X.K fs) (WE W) (tAr X.K m W (arVal gl (arVal gr arNil))) σ H (fun v H' => ∀ b, v = .bl b → Q (.bl (!b)) H') := lent_of (by
      obtain ⟨F, ρ, r, a⟩ := q2
      refine ⟨F, ρ, r, (Aft.bind a).imp fun rr ρ1 F1 H1 r1 s1 a1 v rv => ?_⟩
      cases rr with
      | val d => exact a1 F1 H1 r1 (Same.refl _) v rv
      | own o => exact a1.elim)
    exact td_mono (tar_cons z) fun v H' z2 => td_mono (tar_cons z2) fun v' H'' z3 => tar_nil z3
theorem d_neV {g : Rho → Out D} (h : PC X .NotEq l r (tD X.K m W g)) (hm : behindInMarks .NotEq r = false := by first | exact nobehind _ (by decide) (by decide) | rfl) : DE X m W (.Compare l [.NotEq] [r] pos) g := pe_cmp h hm
theorem t_neV {g : Rho → Out D} (h : PC X .NotEq l r (tD X.K m W g)) (hm : behindInMarks .NotEq r = false := by first | exact nobehind _ (by decide) (by decide) | rfl) : DT X m W (.Compare l [.NotEq] [r] pos) (eTest g) :=
  PT.imp (pt_cmp h hm) fun σ H Q q => test_of (fun _ _ _ => id) q
end
end Lt

/-! # x or y on lists -/
namespace Lt
open PySem PySem.Spec L2
def eOrL (g h : Rho → Out D) : Rho → Out D := fun ρ => (g ρ).bind fun d ρ1 => match d with
  | .lst ds => if ds.isEmpty = true then h ρ1 else .ok (.lst ds) ρ1
  | _ => .stuck
@[simp] theorem rd_orL {g h : Rho → Out D} {ρ : Rho} : eOrL g h ρ = (g ρ).bind fun d ρ1 => match d with
  | .lst ds => if ds.isEmpty = true then h ρ1 else .ok (.lst ds) ρ1
  | _ => .stuck := (rfl)
section
variable {X : Cx} {m : Fm} {W : WX} {a b : Expr} {pos : Pos}
theorem d_orL {g h : Rho → Out D} {rest : List Expr} (ha : DE X m W a g) (hb : DE X m W (.BoolOp .Or (b :: rest) pos) h) : DE X m W (.BoolOp .Or (a :: b :: rest) pos) (eOrL g h) := by
  refine PE.imp (pe_orT ha hb) fun σ H Q q => ?_
  obtain ⟨F, ρ, r, a⟩ := q
  refine ⟨F, ρ, r, (Aft.bind a).imp fun d ρ1 F1 H1 r1 s1 a1 v rv => ?_⟩
  cases d <;> try exact a1.elim
  rename_i ds
  obtain ⟨p, xs, rfl, h1, h2⟩ := r1.lstOf rv
  have hl := Reps.len h2
  refine ⟨!xs.isEmpty, .inl ⟨xs, SqL.of h1, rfl⟩, ?_⟩
  have e : ds.isEmpty = xs.isEmpty := by
    cases xs <;> cases ds <;> simp at hl ⊢
  dsimp only at a1
  rw [e] at a1
  cases z : xs.isEmpty with
  | true => rw [z, if_pos rfl] at a1; exact ⟨F1, ρ1, r1, a1⟩
  | false => rw [z, if_neg (by simp)] at a1; exact a1 F1 H1 r1 (Same.refl _) _ rv
end
end Lt

/-! # Fractions -/
namespace Lt
open PySem PySem.Spec L2

/-- the addresses of the classes -/
structure Ads where
  CPlan : Addr
  CTicketError : Addr
  CInvalidFront : Addr
  CInvalidBack : Addr
  CInvalidRule : Addr
  CBadNumber : Addr
  CBadGuest : Addr
  CBadMany : Addr
  CInvalidSeen : Addr
  CBadSeat : Addr
  CInvalidText : Addr
  CEvening : Addr
  CLineReader : Addr
  CTextReader : Addr
/-- numbers of a size that the machine's own bounds leave alone -/
def big : Nat := 2 ^ 4000
def sm (i : Int) : Prop := i.natAbs < big * big
def ss (i : Int) : Prop := i.natAbs < big
theorem big_pos : 0 < big := Nat.pow_pos (by decide)
theorem big_mul : big * big = 2 ^ 8000 := by unfold big; rw [← Nat.pow_add]
theorem log2_le {n k : Nat} (h : n < 2 ^ k) : n.log2 ≤ k := by
  by_cases e : n = 0
  · subst e; rw [show Nat.log2 0 = 0 by decide]; exact Nat.zero_le _
  · exact Nat.le_of_lt ((Nat.log2_lt e).mpr h)
theorem sm_log {i : Int} (h : sm i) : i.natAbs.log2 ≤ 8000 := log2_le (by unfold sm at h; rwa [big_mul] at h)
theorem sm_fd {i : Int} (h : sm i) : i.natAbs.log2 < 9000 := Nat.lt_of_le_of_lt (sm_log h) (by decide)
theorem sm_mu {i j : Int} (h : sm i) (q : sm j) : i.natAbs.log2 + j.natAbs.log2 < 1000000 := Nat.lt_of_le_of_lt (Nat.add_le_add (sm_log h) (sm_log q)) (by decide)
theorem ss_sm {i : Int} (h : ss i) : sm i := Nat.lt_of_lt_of_le h (Nat.le_mul_of_pos_right _ big_pos)
theorem sm_mono {i j : Int} (h : sm i) (q : j.natAbs ≤ i.natAbs) : sm j := Nat.lt_of_le_of_lt q h
theorem ss_mono {i j : Int} (h : ss i) (q : j.natAbs ≤ i.natAbs) : ss j := Nat.lt_of_le_of_lt q h
theorem ss_mul {i j : Int} (h : ss i) (q : ss j) : sm (i * j) := by
  unfold sm ss at *
  rw [Int.natAbs_mul]
  exact Nat.mul_lt_mul_of_lt_of_lt h q
theorem ss_lt {i : Int} (h : i.natAbs < 2 ^ 100) : ss i := Nat.lt_of_lt_of_le h (Nat.pow_le_pow_right (by decide) (by decide))
@[simp] theorem ss_0 : ss 0 := ss_lt (by decide)
@[simp] theorem ss_1 : ss 1 := ss_lt (by decide)
theorem ss_small {i : Int} (h : -1000000 ≤ i) (q : i ≤ 1000000) : ss i := ss_lt (Nat.lt_of_le_of_lt (show i.natAbs ≤ 1000000 by omega) (by decide))
def fr (q : Rat) : D := .tup [.int q.num, .int q.den]
def sq (q : Rat) : Prop := ss q.num ∧ ss q.den
theorem fr_inj {p q : Rat} (h : fr p = fr q) : p = q := by
  unfold fr at h
  simp only [D.tup.injEq, List.cons.injEq, D.int.injEq, and_true] at h
  exact Rat.ext h.1 (by omega)
theorem fr_shp (q : Rat) : shp 1 (fr q) = true := rfl
@[simp] theorem okP_fr (q : Rat) : okP (fr q) = true := okP_shp (fr_shp q) (by decide)
@[simp] theorem eqB_fr (p q : Rat) : eqB (fr p) (fr q) = decide (p = q) := by
  unfold fr
  rw [eqB_tup, eqB_cons, eqB_cons, eqB_nil, eqB_int, eqB_int]
  by_cases h : p = q
  · subst h; simp
  · have : ¬ (p.num = q.num ∧ p.den = q.den) := fun ⟨a, b⟩ => h (Rat.ext a b)
    simp only [h, decide_false, Bool.and_true]
    by_cases e : p.num = q.num
    · have : ¬ ((p.den : Int) = q.den) := fun z => this ⟨e, by omega⟩
      simp [e, this]
    · simp [e]
theorem divInt_pair {i j : Int} (hj : 0 < j) : (.tup [.int (i / (Int.gcd i j : Int)), .int (j / (Int.gcd i j : Int))] : D) = fr (Rat.divInt i j) := by
  unfold fr
  rw [Rat.num_divInt, Rat.den_divInt, if_neg (by omega), Int.sign_eq_one_of_pos hj, Int.one_mul, Int.gcd_comm j i]
  congr 3
  rw [Int.natCast_ediv]
  congr 1
  congr 1
  omega
theorem fr_div {i j : Int} : fr (Rat.divInt i j) = fr ((i : Rat) / (j : Rat)) := by rw [Rat.divInt_eq_div]
/-! greatest common divisor -/
noncomputable def f_common : PFs := P2 fun a b => match a, b with
  | .int i, .int j => open Classical in if sm i ∧ sm j then .ok (.val (.int (Int.gcd i j))) else .stuck
  | _, _ => .stuck
noncomputable def gb_common : Rho → Fl :=
  sSeq (sPar 0 1 (aCons (eCall absD (aCons (eVar 0) (aNil))) (aCons (eCall absD (aCons (eVar 1) (aNil))) (aNil)))) (sSeq (sWhile (eTest (eBin gtD (eVar 1) (eC (.int 0)))) (sPar 0 1 (aCons (eVar 1) (aCons (eBin subD (eVar 0) (eBin mulD (eBin fdivD (eVar 0) (eVar 1)) (eVar 1))) (aNil))))) (sRet (eVar 0)))
theorem nat_step (a b : Nat) (hb : 0 < b) : ((a : Int) - (a : Int) / (b : Int) * (b : Int)) = ((a % b : Nat) : Int) := by
  have e : (a : Int) - (a : Int) / (b : Int) * (b : Int) = (a : Int) % (b : Int) := by rw [Int.emod_def, Int.mul_comm]
  rw [e]; rfl
theorem nat_div_mul (a b : Nat) : (((a : Int) / (b : Int)) * (b : Int)).natAbs ≤ a := by
  have : ((a : Int) / (b : Int)) * (b : Int) = ((a / b * b : Nat) : Int) := by simp
  rw [this]
  exact Nat.div_mul_le_self a b
theorem common_loop : ∀ (b a : Nat), sm a → sm b →
    whileN (eTest (eBin gtD (eVar 1) (eC (.int 0)))) (sPar 0 1 (aCons (eVar 1) (aCons (eBin subD (eVar 0) (eBin mulD (eBin fdivD (eVar 0) (eVar 1)) (eVar 1))) (aNil)))) (b + 1) [.val (.int a), .val (.int b)] = .nx [.val (.int (Nat.gcd a b)), .val (.int 0)] := by
  intro b
  induction b using Nat.strongRecOn with
  | _ b ih =>
    intro a ha hb
    unfold whileN
    by_cases h : b = 0
    · subst h
      simp
    · have hb0 : 0 < b := by omega
      have hgt : ((0 : Int) < (b : Int)) := by omega
      have q1 : sm ((a : Int) / (b : Int)) := sm_mono ha (by
        have : (a : Int) / (b : Int) = ((a / b : Nat) : Int) := by simp
        rw [this]
        exact Nat.div_le_self a b)
      have q2 := sm_mu q1 hb
      simp only [rd_test, rd_bin, List.getElem?_cons_zero, List.getElem?_cons_succ, rd_var, rd_S, bind_ok, rd_c, rd_cmp, lift_some, rd_toB, fl_ok, hgt, decide_true, if_true, rd_par, rd_aCons, rd_aNil, rd_fdiv, sm_fd hb, and_self, if_true, rd_mul, q2, rd_sub, List.set_cons_zero, List.set_cons_succ]
      rw [nat_step a b hb0]
      have hr := Nat.mod_lt a hb0
      have step := ih (a % b) hr b hb (sm_mono (i := (b : Int)) hb (by rw [Int.natAbs_natCast, Int.natAbs_natCast]; exact Nat.le_of_lt hr))
      have mono := whileN_more (t := eTest (eBin gtD (eVar 1) (eC (.int 0)))) (b := sPar 0 1 (aCons (eVar 1) (aCons (eBin subD (eVar 0) (eBin mulD (eBin fdivD (eVar 0) (eVar 1)) (eVar 1))) (aNil)))) (n := a % b + 1) (ρ := [.val (.int b), .val (.int ((a % b : Nat) : Int))]) (b - (a % b + 1)) (by rw [step]; simp)
      have e : a % b + 1 + (b - (a % b + 1)) = b := by omega
      rw [e] at mono
      rw [mono, step, Nat.gcd_comm a b, Nat.gcd_rec b a, Nat.gcd_comm]
theorem eq_common : ∀ ds, f_common ds ≠ .stuck → finP (gb_common (ds.map Lt.S.val ++ List.replicate (2 - ds.length) Lt.S.no)) = f_common ds := by
  intro ds h
  have hl := P2.len ds h
  match ds, hl with
  | [a, b], _ =>
    unfold f_common P2 at h ⊢
    dsimp only at h ⊢
    split at h
    · rename_i i j _
      split at h
      · rename_i hz
        rw [if_pos hz]
        have e1 : ∀ i : Int, (if i < 0 then -i else i) = (i.natAbs : Int) := fun i => by split <;> omega
        have w := while_is (ρ := [.val (.int i.natAbs), .val (.int j.natAbs)]) _ (common_loop j.natAbs i.natAbs (by exact sm_mono hz.1 (by simp)) (by exact sm_mono hz.2 (by simp))) (by simp)
        unfold gb_common
        simp [e1, w, Int.gcd]
      · exact absurd rfl h
    · exact absurd rfl h
/-! a / b in lowest terms -/
noncomputable def f_fraction : PFs := P2 fun a b => match a, b with
  | .int i, .int j => open Classical in if sm i ∧ sm j ∧ j ≠ 0 then .ok (.val (fr ((i : Rat) / (j : Rat)))) else .stuck
  | _, _ => .stuck
noncomputable def gb_fraction : Rho → Fl :=
  sSeq (sIf (eTest (eBin ltD (eVar 1) (eC (.int 0)))) (sPar 0 1 (aCons (eUn negD (eVar 0)) (aCons (eUn negD (eVar 1)) (aNil)))) (sNext)) (sSeq (sSet 2 (eFn f_common (aCons (eVar 0) (aCons (eVar 1) (aNil))))) (sRet (eTup (aCons (eBin fdivD (eVar 0) (eVar 2)) (aCons (eBin fdivD (eVar 1) (eVar 2)) (aNil))))))
theorem common_ok {i j : Int} (h1 : sm i) (h2 : sm j) : f_common [.int i, .int j] = .ok (.val (.int (Int.gcd i j))) := by
  unfold f_common P2; dsimp only; rw [if_pos ⟨h1, h2⟩]
theorem fraction_ok {i j : Int} (h1 : sm i) (h2 : sm j) (h3 : j ≠ 0) : f_fraction [.int i, .int j] = .ok (.val (fr ((i : Rat) / (j : Rat)))) := by
  unfold f_fraction P2; dsimp only; rw [if_pos ⟨h1, h2, h3⟩]
theorem gcd_facts {i j : Int} (h : sm j) (hj : j ≠ 0) : (0 : Int) < (Int.gcd i j : Int) ∧ ((Int.gcd i j : Nat) : Int).natAbs.log2 < 9000 := by
  have p : 0 < Int.gcd i j := Int.gcd_pos_of_ne_zero_right i hj
  refine ⟨by omega, sm_fd (sm_mono h ?_)⟩
  show Int.gcd i j ≤ j.natAbs
  exact Nat.le_of_dvd (by omega) (Nat.gcd_dvd_right _ _)
theorem eq_fraction : ∀ ds, f_fraction ds ≠ .stuck → finP (gb_fraction (ds.map Lt.S.val ++ List.replicate (3 - ds.length) Lt.S.no)) = f_fraction ds := by
  intro ds h
  have hl := P2.len ds h
  match ds, hl with
  | [a, b], _ =>
    unfold f_fraction P2 at h ⊢
    dsimp only at h ⊢
    split at h
    · rename_i i j _
      split at h
      · rename_i hz
        rw [if_pos hz]
        obtain ⟨h1, h2, h3⟩ := hz
        unfold gb_fraction
        by_cases c : j < 0
        · have h1' : sm (-i) := sm_mono h1 (by simp)
          have h2' : sm (-j) := sm_mono h2 (by simp)
          have g := gcd_facts (i := -i) h2' (by omega)
          have e := divInt_pair (i := -i) (j := -j) (by omega)
          rw [Rat.divInt_eq_div] at e
          have e2 : ((-i : Int) : Rat) / ((-j : Int) : Rat) = (i : Rat) / (j : Rat) := by
            have : (j : Rat) ≠ 0 := by simpa using h3
            simp only [Rat.intCast_neg]
            grind
          rw [e2] at e
          have c1 := common_ok h1' h2'
          generalize ((Int.gcd (-i) (-j) : Nat) : Int) = G at c1 g e
          simp [c, c1, g.1, g.2, e]
        · have g := gcd_facts (i := i) h2 h3
          have e := divInt_pair (i := i) (j := j) (by omega)
          rw [Rat.divInt_eq_div] at e
          have c1 := common_ok h1 h2
          generalize ((Int.gcd i j : Nat) : Int) = G at c1 g e
          simp [c, c1, g.1, g.2, e]
      · exact absurd rfl h
    · exact absurd rfl h
/-! products -/
noncomputable def f_product : PFs := P2 fun a b => match a, b with
  | .tup [.int i, .int j], .tup [.int k, .int l] => open Classical in if (ss i ∧ ss j ∧ ss k ∧ ss l) ∧ j ≠ 0 ∧ l ≠ 0 then .ok (.val (fr (((i : Rat) / (j : Rat)) * ((k : Rat) / (l : Rat))))) else .stuck
  | _, _ => .stuck
noncomputable def gb_product : Rho → Fl :=
  sRet (eFn f_fraction (aCons (eBin mulD (eBin ixD (eVar 0) (eC (.int 0))) (eBin ixD (eVar 1) (eC (.int 0)))) (aCons (eBin mulD (eBin ixD (eVar 0) (eC (.int 1))) (eBin ixD (eVar 1) (eC (.int 1)))) (aNil))))
theorem eq_product : ∀ ds, f_product ds ≠ .stuck → finP (gb_product (ds.map Lt.S.val ++ List.replicate (2 - ds.length) Lt.S.no)) = f_product ds := by
  intro ds h
  have hl := P2.len ds h
  match ds, hl with
  | [a, b], _ =>
    unfold f_product P2 at h ⊢
    dsimp only at h ⊢
    split at h
    · rename_i i j k l _
      split at h
      · rename_i hz
        rw [if_pos hz]
        obtain ⟨⟨h1, h2, h3, h4⟩, h5, h6⟩ := hz
        have e : ((i : Rat) / (j : Rat)) * ((k : Rat) / (l : Rat)) = ((i * k : Int) : Rat) / ((j * l : Int) : Rat) := by
          have : (j : Rat) ≠ 0 := by simpa using h5
          have : (l : Rat) ≠ 0 := by simpa using h6
          simp only [Rat.intCast_mul]
          grind
        unfold gb_product
        simp [sm_mu (ss_sm h1) (ss_sm h3), sm_mu (ss_sm h2) (ss_sm h4), fraction_ok (ss_mul h1 h3) (ss_mul h2 h4) (Int.mul_ne_zero h5 h6), e]
      · exact absurd rfl h
    · exact absurd rfl h
theorem fr_eq (q : Rat) : ((q.num : Int) : Rat) / ((q.den : Int) : Rat) = q := by
  rw [← Rat.divInt_eq_div]; exact Rat.num_divInt_den q
theorem product_ok {p q : Rat} (h1 : sq p) (h2 : sq q) : f_product [fr p, fr q] = .ok (.val (fr (p * q))) := by
  unfold f_product P2 fr
  dsimp only
  rw [if_pos ⟨⟨h1.1, h1.2, h2.1, h2.2⟩, by have := p.den_pos; omega, by have := q.den_pos; omega⟩, fr_eq, fr_eq]
end Lt

/-! # Plans, chances -/
namespace Lt
open PySem PySem.Spec L2

/-! ### sizes of fractions -/
def szq (B : Nat) (q : Rat) : Prop := q.num.natAbs ≤ B ∧ q.den ≤ B
theorem szq_norm {B : Nat} {i : Int} {j : Nat} (hj : j ≠ 0) (h1 : i.natAbs ≤ B) (h2 : j ≤ B) : szq B (Rat.normalize i j hj) := by
  rw [Rat.normalize_eq]
  refine ⟨?_, ?_⟩
  · show (i / ((i.natAbs.gcd j : Nat) : Int)).natAbs ≤ B
    exact Nat.le_trans (Int.natAbs_ediv_le_natAbs _ _) h1
  · exact Nat.le_trans (Nat.div_le_self _ _) h2
theorem szq_mul {B C : Nat} {p q : Rat} (h1 : szq B p) (h2 : szq C q) : szq (B * C) (p * q) := by
  rw [Rat.mul_def]
  refine szq_norm _ ?_ (Nat.mul_le_mul h1.2 h2.2)
  rw [Int.natAbs_mul]
  exact Nat.mul_le_mul h1.1 h2.1
theorem szq_div {B : Nat} {i j : Int} (h1 : i.natAbs ≤ B) (h2 : j.natAbs ≤ B) (hj : 0 < j) : szq B ((i : Rat) / (j : Rat)) := by
  rw [← Rat.divInt_eq_div]
  obtain ⟨k, rfl⟩ : ∃ k : Nat, j = (k : Int) := ⟨j.toNat, by omega⟩
  show szq B (mkRat i k)
  unfold mkRat
  rw [dif_neg (by omega)]
  exact szq_norm _ h1 (by simpa using h2)
theorem szq_mono {B C : Nat} {q : Rat} (h : szq B q) (hc : B ≤ C) : szq C q := ⟨Nat.le_trans h.1 hc, Nat.le_trans h.2 hc⟩
theorem szq_one : szq 1 1 := ⟨by decide, by decide⟩
theorem szq_sq {k : Nat} {q : Rat} (h : szq (2 ^ k) q) (hk : k < 4000) : sq q := by
  have e : 2 ^ k < big := Nat.pow_lt_pow_right (by decide) hk
  exact ⟨Nat.lt_of_le_of_lt h.1 e, Nat.lt_of_le_of_lt (by simpa using h.2) e⟩
theorem fr_inv {k : Int} (hk : 0 < k) : (.tup [.int 1, .int k] : D) = fr (1 / (k : Rat)) := by
  have e := divInt_pair (i := 1) (j := k) hk
  rw [Rat.divInt_eq_div] at e
  simpa using e
theorem fr_one : (.tup [.int 1, .int 1] : D) = fr 1 := rfl
theorem fr_zero : (.tup [.int 0, .int 1] : D) = fr 0 := rfl

/-! ### whole numbers -/
def tyd (d : D) : Bool := (tyName d).isSome
noncomputable def f_is_whole : PFs := P1 fun d => match d with
  | .int _ => .ok (.val (.bl true))
  | .non => .ok (.val (.bl false))
  | .bl _ => .ok (.val (.bl false))
  | .str _ => .ok (.val (.bl false))
  | .tup _ => .ok (.val (.bl false))
  | .lst _ => .ok (.val (.bl false))
  | .emp => .ok (.val (.bl false))
  | _ => .stuck
noncomputable def gb_is_whole : Rho → Fl :=
  sRet (eAnd (eIsi "int" (eVar 0)) (eNot (eIsi "bool" (eVar 0))))
theorem eq_is_whole : ∀ ds, f_is_whole ds ≠ .stuck → finP (gb_is_whole (ds.map Lt.S.val ++ List.replicate (1 - ds.length) Lt.S.no)) = f_is_whole ds := by
  refine P1.all fun d h => ?_
  unfold gb_is_whole
  cases d <;> (try exact absurd rfl h) <;> simp
def whole? : D → Option Int
  | .int i => some i
  | _ => none
noncomputable def f_is_within : PFs := P3 fun d l h => match l, h with
  | .int l, .int h => match d with
    | .int v => .ok (.val (.bl (decide (l ≤ v) && decide (v ≤ h))))
    | .non => .ok (.val (.bl false))
    | .bl _ => .ok (.val (.bl false))
    | .str _ => .ok (.val (.bl false))
    | .tup _ => .ok (.val (.bl false))
    | .lst _ => .ok (.val (.bl false))
    | .emp => .ok (.val (.bl false))
    | _ => .stuck
  | _, _ => .stuck
noncomputable def gb_is_within : Rho → Fl :=
  sRet (eAnd (eFn f_is_whole (aCons (eVar 0) (aNil))) (eChain leD leD (eVar 1) (eVar 0) (eVar 2)))
theorem eq_is_within : ∀ ds, f_is_within ds ≠ .stuck → finP (gb_is_within (ds.map Lt.S.val ++ List.replicate (3 - ds.length) Lt.S.no)) = f_is_within ds := by
  refine P3.all fun d l u h => ?_
  · unfold gb_is_within
    cases l <;> (try exact absurd rfl h)
    cases u <;> (try exact absurd rfl h)
    rename_i l u
    cases d <;> (try exact absurd rfl h) <;> simp [f_is_whole, P1]
    rename_i v
    by_cases c : l ≤ v <;> simp [c]
def wB (l u : Int) : D → Bool
  | .int v => decide (l ≤ v) && decide (v ≤ u)
  | _ => false
theorem within_ok {d : D} {l u : Int} (h : tyd d = true) : f_is_within [d, .int l, .int u] = .ok (.val (.bl (wB l u d))) := by
  cases d <;> simp [tyd, tyName] at h <;> rfl
/-! ### places -/
def asc (ns : List Int) : Bool := (ns.zip ns.tail).all fun p => decide (p.1 < p.2)
def placesB (m l : Int) : D → Bool
  | .tup ds => decide ((ds.length : Int) ≤ m) && match asInts ds with
    | some ns => ns.all (fun v => decide (1 ≤ v) && decide (v ≤ l)) && asc ns
    | none => false
  | _ => false
def okPl (d : D) : Bool := tyd d && match d with
  | .tup ds => ds.all tyd && decide (ds.length ≤ 1000)
  | _ => true
noncomputable def f_are_places : PFs := P3 fun d m l => match m, l with
  | .int m, .int l => if okPl d = true then .ok (.val (.bl (placesB m l d))) else .stuck
  | _, _ => .stuck
noncomputable def gb_are_places : Rho → Fl :=
  sSeq (sIf (bOr (bNot (eTest (eIsi "tuple" (eVar 0)))) (eTest (eBin gtD (eCall lenD (aCons (eVar 0) (aNil))) (eVar 1)))) (sRet (eC (.bl false))) (sNext)) (sSeq (sIf (bNot (eTest (eCall allD (aCons (eLcQ [3] (iSeq (eVar 0)) (gSet 3) (tYesD) (eFn f_is_within (aCons (eVar 3) (aCons (eC (.int 1)) (aCons (eVar 2) (aNil)))))) (aNil))))) (sRet (eC (.bl false))) (sNext)) (sRet (eCall allD (aCons (eLcQ [4, 5] (iZip (aCons (eVar 0) (aCons (eSlice (eVar 0) (oSome (eC (.int 1))) (oNone)) (aNil)))) (gPair (gSet 4) (gSet 5)) (tYesD) (eBin ltD (eVar 4) (eVar 5))) (aNil)))))
theorem cut1 (ds : List D) : cutD ds (some 1) none = ds.tail := by
  unfold cutD
  have e : HT.sIx ds.length 0 (some 1) = min 1 ds.length := HT.sIx_nat _ _ 1
  rw [e, HT.sIx_none]
  cases ds with
  | nil => rfl
  | cons d ds =>
    have : min 1 (d :: ds).length = 1 := by simp
    rw [this]
    simp
theorem ints_map (ns : List Int) : (ns.map D.int).map (fun d => D.bl (wB 1 0 d)) = ns.map fun v => D.bl (decide (1 ≤ v) && decide (v ≤ 0)) := by
  rw [List.map_map]; rfl
theorem zip_ints (ns ms : List Int) : ((ns.map D.int).zip (ms.map D.int)).map (fun p => D.tup [p.1, p.2]) = (ns.zip ms).map fun p => D.tup [.int p.1, .int p.2] := by
  rw [List.zip_map, List.map_map]; rfl
theorem all_ints {u l : Int} : ∀ {ds : List D}, ds.all (wB u l) = true → ∃ ns, asInts ds = some ns ∧ ds = ns.map D.int ∧ ns.all (fun v => decide (u ≤ v) && decide (v ≤ l)) = true
  | [], _ => ⟨[], rfl, rfl, rfl⟩
  | d :: ds, h => by
    rw [List.all_cons, Bool.and_eq_true] at h
    obtain ⟨ns, h1, h2, h3⟩ := all_ints h.2
    cases d <;> (try exact absurd h.1 Bool.false_ne_true)
    rename_i v
    refine ⟨v :: ns, by rw [asInts, h1]; rfl, by rw [h2]; rfl, ?_⟩
    rw [List.all_cons, h3, Bool.and_true]
    exact h.1
theorem all_wB {u l : Int} : ∀ {ns : List Int}, (ns.map D.int).all (wB u l) = ns.all (fun v => decide (u ≤ v) && decide (v ≤ l)) := by
  intro ns
  rw [List.all_map]
  rfl
theorem all_bls {α : Type} (f : α → Bool) (ds : List α) : allD [.lst (ds.map fun d => .bl (f d))] = some (.bl (ds.all f)) := by
  have e : ds.map (fun d => D.bl (f d)) = (ds.map f).map D.bl := by rw [List.map_map]; rfl
  rw [rd_allL, e, asBls_map]
  simp [List.all_map, Function.comp_def]
theorem eq_are_places : ∀ ds, f_are_places ds ≠ .stuck → finP (gb_are_places (ds.map Lt.S.val ++ List.replicate (6 - ds.length) Lt.S.no)) = f_are_places ds := by
  refine P3.all fun d m l h => ?_
  · skip
    cases m <;> (try exact absurd rfl h)
    cases l <;> (try exact absurd rfl h)
    rename_i m l
    dsimp only at h ⊢
    split at h
    · rename_i hz
      rw [if_pos hz]
      unfold gb_are_places
      unfold okPl at hz
      rw [Bool.and_eq_true] at hz
      cases d <;> (try (simp [tyd, tyName] at hz; done)) <;> (try (simp [placesB]; done))
      rename_i ds
      have hz2 := hz.2
      dsimp only at hz2
      rw [Bool.and_eq_true] at hz2
      obtain ⟨hty, hlen⟩ := hz2
      have hlen := of_decide_eq_true hlen
      by_cases c : (m : Int) < ds.length
      · have c2 : ¬ ((ds.length : Int) ≤ m) := by omega
        simp [placesB, c, c2]
      · have c2 : ((ds.length : Int) ≤ m) := by omega
        have l1 := lcD_all (vs := [3]) (gt := gSet 3) (ge := eFn f_is_within (aCons (eVar 3) (aCons (eC (.int 1)) (aCons (eVar 2) (aNil))))) (c := [.val (.tup ds), .val (.int m), .val (.int l), .no, .no, .no]) id (fun d => [.val (.tup ds), .val (.int m), .val (.int l), .val d, .no, .no]) (fun d => .bl (wB 1 l d)) ds
          [.val (.tup ds), .val (.int m), .val (.int l), .no, .no, .no] rfl (fun a ha => ⟨rfl, by simp [within_ok (List.all_eq_true.mp hty a ha)], rfl⟩) (Nat.le_trans hlen (size_le (by decide)))
        rw [List.map_id] at l1
        by_cases w : ds.all (wB 1 l) = true
        · obtain ⟨ns, w1, w2, w3⟩ := all_ints w
          subst w2
          have l2 := lcD_all (vs := [4, 5]) (gt := gPair (gSet 4) (gSet 5)) (ge := eBin ltD (eVar 4) (eVar 5)) (c := [.val (.tup (ns.map D.int)), .val (.int m), .val (.int l), .no, .no, .no]) (fun p : Int × Int => D.tup [.int p.1, .int p.2]) (fun p => [.val (.tup (ns.map D.int)), .val (.int m), .val (.int l), .no, .val (.int p.1), .val (.int p.2)]) (fun p => .bl (decide (p.1 < p.2))) (ns.zip ns.tail)
            [.val (.tup (ns.map D.int)), .val (.int m), .val (.int l), .no, .no, .no] rfl (fun a ha => ⟨rfl, by simp, rfl⟩) (Nat.le_trans (by rw [List.length_zip, List.length_tail]; rw [List.length_map] at hlen; omega) (size_le (n := 1000) (by decide)))
          have e3 : ((ns.map D.int).zip (cutD (ns.map D.int) (some 1) none)).map (fun p => D.tup [p.1, p.2]) = (ns.zip ns.tail).map fun p => D.tup [.int p.1, .int p.2] := by
            rw [cut1, ← List.map_tail, zip_ints]
          have a1 := all_bls (wB 1 l) (ns.map D.int)
          have a2 := all_bls (fun p : Int × Int => decide (p.1 < p.2)) (ns.zip ns.tail)
          rw [w] at a1
          simp only [rd_allL] at a1 a2
          have c3 : ¬ (m < (ns.length : Int)) := by simpa using c
          have p1 : placesB m l (.tup (ns.map D.int)) = asc ns := by
            unfold placesB
            simp [w1, w3, c2]
            have c4 : ((ns.length : Int) ≤ m) := by simpa using c2
            simp [c4]
          have w3' : ns.all (fun v => decide (1 ≤ v) && decide (v ≤ l)) = true := w3
          rw [p1]
          generalize ns.map D.int = ds at c l1 l2 e3 a1
          simp [c, l1, l2, e3, a1, a2, asc, -List.map_map]
        · have a1 := all_bls (wB 1 l) ds
          have wf : ds.all (wB 1 l) = false := by simpa using w
          rw [wf] at a1
          simp only [rd_allL] at a1
          have pf : placesB m l (.tup ds) = false := by
            unfold placesB
            cases e : asInts ds with
            | none => simp [e]
            | some ns =>
              have e2 := asInts_is e
              subst e2
              rw [all_wB] at wf
              simp [e, wf]
          simp [pf, c, c2, l1, a1]
    · exact absurd rfl h
end Lt

/-! # Rules, plans, who has lost -/
namespace Lt
open PySem PySem.Spec L2
def sAny : Str := PySem.Str.ofString "any"
def sAsks : Str := PySem.Str.ofString "asks"
def sLow : Str := PySem.Str.ofString "low"
def dRULES : D := .tup [.str sAny, .str sAsks, .str sLow]
def isRule (x : Str) : Bool := decide (x = sAny) || (decide (x = sAsks) || decide (x = sLow))
def ruleB : D → Bool
  | .str x => isRule x
  | _ => false
noncomputable def f_is_rule : PFs := P1 fun d => if tyd d = true then .ok (.val (.bl (ruleB d))) else .stuck
noncomputable def gb_is_rule : Rho → Fl :=
  sRet (eAnd (eIsi "str" (eVar 0)) (eBin (inD false) (eVar 0) (eC dRULES)))
theorem eq_is_rule : ∀ ds, f_is_rule ds ≠ .stuck → finP (gb_is_rule (ds.map Lt.S.val ++ List.replicate (1 - ds.length) Lt.S.no)) = f_is_rule ds := by
  refine P1.all fun d h => ?_
  split at h
  · rename_i hz
    rw [if_pos hz]
    unfold gb_is_rule
    cases d <;> (try (simp [tyd, tyName] at hz; done)) <;> (try (simp [ruleB]; done))
    rename_i x
    have e : inD false (.str x) dRULES = some (.bl (isRule x)) := by
      unfold inD dRULES
      simp only [List.all_cons, flatD, List.all_nil, Bool.and_self, and_self, if_true, inB, List.any_cons, List.any_nil, eqB_str, Bool.or_false, isRule]
      simp [eq_comm]
    simp [e, ruleB]
  · exact absurd rfl h
/-! ### a plan -/
def last0 (ns : List Int) : Int := ns.getLast?.getD 0
def least (f b : List Int) : Int := max 1 (last0 f + last0 b)
def plN : List Str := [PySem.Str.ofString "fore", PySem.Str.ofString "rear", PySem.Str.ofString "way", PySem.Str.ofString "first"]
def plV (f b : List Int) (x : Str) : List D := [.tup (f.map .int), .tup (b.map .int), .str x, .int (least f b)]
def dPlan (A : Ads) (f b : List Int) (x : Str) : D := .ins A.CPlan plN (plV f b x)
def dePlan (A : Ads) : D → Option (List Int × List Int × Str)
  | .ins C ns [.tup f, .tup b, .str x, .int z] => if C = A.CPlan ∧ ns = plN then (asInts f).bind fun f => (asInts b).bind fun b => if z = least f b then some (f, b, x) else none else none
  | _ => none
@[simp] theorem dePlan_dPlan (A : Ads) (f b : List Int) (x : Str) : dePlan A (dPlan A f b x) = some (f, b, x) := by
  simp [dePlan, dPlan, plV, asInts_map]
theorem dePlan_is {A : Ads} {d : D} {f b : List Int} {x : Str} (h : dePlan A d = some (f, b, x)) : d = dPlan A f b x := by
  unfold dePlan at h
  split at h
  · split at h
    · rename_i hz
      obtain ⟨f', h1, g1⟩ := Option.bind_eq_some_iff.mp h
      obtain ⟨b', h2, g2⟩ := Option.bind_eq_some_iff.mp g1
      clear h g1
      split at g2 <;> cases g2
      rename_i hl
      rw [asInts_is h1, asInts_is h2, hz.1, hz.2, hl]
      rfl
    · cases h
  · cases h
def oPlan (A : Ads) (f b : List Int) (x : Str) : O := .ins A.CPlan (plN.zip (plV f b x))
theorem frz_oPlan (A : Ads) (f b : List Int) (x : Str) : frz (oPlan A f b x) = some (dPlan A f b x) := rfl
@[simp] theorem fld_fore (A : Ads) (f b : List Int) (x : Str) : fldD A.CPlan (PySem.Str.ofString "fore") (dPlan A f b x) = some (.tup (f.map .int)) := by
  unfold fldD dPlan
  simp [fldOf, plN, plV]
@[simp] theorem fld_rear (A : Ads) (f b : List Int) (x : Str) : fldD A.CPlan (PySem.Str.ofString "rear") (dPlan A f b x) = some (.tup (b.map .int)) := by
  have n1 : ((PySem.Str.ofString "rear") == (PySem.Str.ofString "fore")) = false := by decide +kernel
  unfold fldD dPlan
  simp [fldOf, plN, plV, n1]
@[simp] theorem fld_way (A : Ads) (f b : List Int) (x : Str) : fldD A.CPlan (PySem.Str.ofString "way") (dPlan A f b x) = some (.str x) := by
  have n1 : ((PySem.Str.ofString "way") == (PySem.Str.ofString "fore")) = false := by decide +kernel
  have n2 : ((PySem.Str.ofString "way") == (PySem.Str.ofString "rear")) = false := by decide +kernel
  unfold fldD dPlan
  simp [fldOf, plN, plV, n1, n2]
@[simp] theorem fld_first (A : Ads) (f b : List Int) (x : Str) : fldD A.CPlan (PySem.Str.ofString "first") (dPlan A f b x) = some (.int (least f b)) := by
  have n1 : ((PySem.Str.ofString "first") == (PySem.Str.ofString "fore")) = false := by decide +kernel
  have n2 : ((PySem.Str.ofString "first") == (PySem.Str.ofString "rear")) = false := by decide +kernel
  have n3 : ((PySem.Str.ofString "first") == (PySem.Str.ofString "way")) = false := by decide +kernel
  unfold fldD dPlan
  simp [fldOf, plN, plV, n1, n2, n3]
/-! making a plan -/
theorem cutm1 (ds : List D) : cutD ds (some (-1)) none = ds.getLast?.toList := by
  unfold cutD
  have e : HT.sIx ds.length 0 (some (-1)) = ds.length - 1 := by
    show (if (-1 : Int) < 0 then ((-1 : Int) + (ds.length : Int)).toNat else min (-1 : Int).toNat ds.length) = _
    rw [if_pos (by decide)]
    omega
  rw [e, HT.sIx_none]
  cases h : ds.getLast? with
  | none => rw [List.getLast?_eq_none_iff.mp h]; rfl
  | some d =>
    obtain ⟨r, rfl⟩ := List.getLast?_eq_some_iff.mp h
    simp
theorem sum_last (ns : List Int) : sumA [.tup (cutD (ns.map D.int) (some (-1)) none)] = some (.int (last0 ns)) := by
  rw [cutm1, rd_sumT]
  unfold last0
  rw [List.getLast?_map]
  cases ns.getLast? with
  | none => rfl
  | some n => simp [asInts]
/-- what may stand in front, in the back -/
def okF (f : List Int) : Bool := placesB 3 5 (.tup (f.map .int))
def okB (b : List Int) : Bool := placesB 2 4 (.tup (b.map .int))
theorem placesB_ints (m l : Int) (ns : List Int) : placesB m l (.tup (ns.map .int)) = (decide ((ns.length : Int) ≤ m) && (ns.all (fun v => decide (1 ≤ v) && decide (v ≤ l)) && asc ns)) := by
  unfold placesB
  simp [asInts_map]
theorem okPl_ints {ns : List Int} (h : ns.length ≤ 1000) : okPl (.tup (ns.map .int)) = true := by
  unfold okPl
  have e : (ns.map D.int).all tyd = true := by rw [List.all_map]; simp [Function.comp_def, tyd, tyName]
  simp [e, h, tyd, tyName]
theorem okF_len {f : List Int} (h : okF f = true) : f.length ≤ 3 := by
  unfold okF at h
  rw [placesB_ints, Bool.and_eq_true] at h
  have := of_decide_eq_true h.1
  omega
theorem okB_len {f : List Int} (h : okB f = true) : f.length ≤ 2 := by
  unfold okB at h
  rw [placesB_ints, Bool.and_eq_true] at h
  have := of_decide_eq_true h.1
  omega
theorem okF_mem {f : List Int} (h : okF f = true) : ∀ v ∈ f, 1 ≤ v ∧ v ≤ 5 := by
  unfold okF at h
  rw [placesB_ints, Bool.and_eq_true, Bool.and_eq_true] at h
  intro v hv
  have := List.all_eq_true.mp h.2.1 v hv
  simpa using this
theorem okB_mem {f : List Int} (h : okB f = true) : ∀ v ∈ f, 1 ≤ v ∧ v ≤ 4 := by
  unfold okB at h
  rw [placesB_ints, Bool.and_eq_true, Bool.and_eq_true] at h
  intro v hv
  have := List.all_eq_true.mp h.2.1 v hv
  simpa using this
theorem places_ok {ns : List Int} {m l : Int} (h : ns.length ≤ 1000) : f_are_places [.tup (ns.map .int), .int m, .int l] = .ok (.val (.bl (placesB m l (.tup (ns.map .int))))) := by
  unfold f_are_places P3
  dsimp only
  rw [if_pos (okPl_ints h)]
theorem rule_ok (x : Str) : f_is_rule [.str x] = .ok (.val (.bl (isRule x))) := rfl
def selfArgs (A : Ads) : List R → Option (D × D × D)
  | [.own (.ins C []), .val f, .val b, .val r] => if C = A.CPlan then some (f, b, r) else none
  | _ => none
def rightPlan : D → D → D → Option (List Int × List Int × Str)
  | .tup f, .tup b, .str x => (asInts f).bind fun f => (asInts b).bind fun b => if okF f = true ∧ okB b = true ∧ isRule x = true then some (f, b, x) else none
  | _, _, _ => none
noncomputable def f_Plan (A : Ads) : Fs := fun as => match selfArgs A as with
  | some (f, b, r) => match rightPlan f b r with
    | some (f', b', x) => .ok (.val .non) [.own (oPlan A f' b' x), .val f, .val b, .val r]
    | none => .stuck
  | none => .stuck
noncomputable def gb_Plan___init__ (A : Ads) : Rho → Fl :=
  sSeq (sIf (bNot (eTest (eFn f_are_places (aCons (eVar 1) (aCons (eC (.int 3)) (aCons (eC (.int 5)) (aNil))))))) (sRaise A.CInvalidFront [] (aNil)) (sNext)) (sSeq (sIf (bNot (eTest (eFn f_are_places (aCons (eVar 2) (aCons (eC (.int 2)) (aCons (eC (.int 4)) (aNil))))))) (sRaise A.CInvalidBack [] (aNil)) (sNext)) (sSeq (sIf (bNot (eTest (eFn f_is_rule (aCons (eVar 3) (aNil))))) (sRaise A.CInvalidRule [] (aNil)) (sNext)) (sSeq (sFldO 0 A.CPlan "fore" (eVar 1)) (sSeq (sFldO 0 A.CPlan "rear" (eVar 2)) (sSeq (sFldO 0 A.CPlan "way" (eVar 3)) (sFldO 0 A.CPlan "first" (eCall maxD (aCons (eLst (aCons (eC (.int 1)) (aCons (eBin addD (eCall sumA (aCons (eSlice (eVar 1) (oSome (eUn negD (eC (.int 1)))) (oNone)) (aNil))) (eCall sumA (aCons (eSlice (eVar 2) (oSome (eUn negD (eC (.int 1)))) (oNone)) (aNil)))) (aNil)))) (aNil)))))))))
theorem rd_fldO {i : Nat} {C : Addr} {fl : Str} {g : Rho → Out D} {ρ : Rho} : sFldO i C fl g ρ = (g ρ).fl fun d ρ1 => match insAt i C ρ1 with
  | some fs => if fs.length < 900 then .nx (setO i (.ins C (putFD fl d fs)) ρ1) else .stuck
  | none => .stuck := rfl
theorem eq_Plan (A : Ads) : ∀ as, f_Plan A as ≠ .stuck → Lt.fin as (gb_Plan___init__ A (rho0 4 as)) = f_Plan A as := by
  intro as h
  unfold f_Plan at h ⊢
  cases e : selfArgs A as with
  | none => rw [e] at h; exact absurd rfl h
  | some t =>
    obtain ⟨f, b, r⟩ := t
    rw [e] at h
    dsimp only at h ⊢
    have ea : as = [.own (.ins A.CPlan []), .val f, .val b, .val r] := by
      unfold selfArgs at e
      split at e
      · split at e
        · rename_i hC
          cases e
          rw [hC]
        · cases e
      · cases e
    cases e2 : rightPlan f b r with
    | none => rw [e2] at h; exact absurd rfl h
    | some t =>
      obtain ⟨f', b', x⟩ := t
      dsimp only
      have e3 : f = .tup (f'.map .int) ∧ b = .tup (b'.map .int) ∧ r = .str x ∧ okF f' = true ∧ okB b' = true ∧ isRule x = true := by
        unfold rightPlan at e2
        split at e2
        · obtain ⟨p, h1, g1⟩ := Option.bind_eq_some_iff.mp e2
          obtain ⟨q, h2, g2⟩ := Option.bind_eq_some_iff.mp g1
          clear e2 g1 e h
          split at g2 <;> cases g2
          rename_i hz
          exact ⟨by rw [asInts_is h1], by rw [asInts_is h2], rfl, hz⟩
        · cases e2
      obtain ⟨rfl, rfl, rfl, o1, o2, o3⟩ := e3
      subst ea
      have n1 : ¬ (PySem.Str.ofString "fore" = PySem.Str.ofString "rear") := by decide +kernel
      have n2 : ¬ (PySem.Str.ofString "fore" = PySem.Str.ofString "way") := by decide +kernel
      have n3 : ¬ (PySem.Str.ofString "rear" = PySem.Str.ofString "way") := by decide +kernel
      have n4 : ¬ (PySem.Str.ofString "fore" = PySem.Str.ofString "first") := by decide +kernel
      have n5 : ¬ (PySem.Str.ofString "rear" = PySem.Str.ofString "first") := by decide +kernel
      have n6 : ¬ (PySem.Str.ofString "way" = PySem.Str.ofString "first") := by decide +kernel
      have p1 := places_ok (ns := f') (m := 3) (l := 5) (by have := okF_len o1; omega)
      have p2 := places_ok (ns := b') (m := 2) (l := 4) (by have := okB_len o2; omega)
      rw [show placesB 3 5 (.tup (f'.map .int)) = true from o1] at p1
      rw [show placesB 2 4 (.tup (b'.map .int)) = true from o2] at p2
      have p3 := rule_ok x
      rw [o3] at p3
      have s1 := sum_last f'
      have s2 := sum_last b'
      simp only [rd_sumT] at s1 s2
      have mx : maxD [.lst [.int 1, .int (last0 f' + last0 b')]] = some (.int (least f' b')) := rfl
      unfold gb_Plan___init__
      simp [rho0, ent, p1, p2, p3, s1, s2, mx, rd_fldO, insAt, setO, putFD, n1, n2, n3, n4, n5, n6, Lt.fin, outs, oPlan, plN, plV]
theorem selfArgs_len {A : Ads} {as : List R} {t : D × D × D} (h : selfArgs A as = some t) : as.length = 4 := by
  unfold selfArgs at h
  split at h
  · rfl
  · cases h
end Lt

/-! # Chances -/
namespace Lt
open PySem PySem.Spec L2
/-- who has lost, by their places -/
def lostL (f b : List Int) (n : Int) : List Int := f ++ b.reverse.map fun p => n + 1 - p
noncomputable def f_lost_of (A : Ads) : PFs := P2 fun p n => match dePlan A p, n with
  | some (f, b, x), .int n => if f.length ≤ 3 ∧ b.length ≤ 2 then .ok (.val (.lst ((lostL f b n).map .int))) else .stuck
  | _, _ => .stuck
theorem lost_of_ok {A : Ads} {f b : List Int} {x : Str} {n : Int} (h1 : f.length ≤ 3) (h2 : b.length ≤ 2) : f_lost_of A [dPlan A f b x, .int n] = .ok (.val (.lst ((lostL f b n).map .int))) := by
  unfold f_lost_of P2
  simp [h1, h2]
noncomputable def gb_lost_of (A : Ads) : Rho → Fl :=
  sRet (eBin addD (eCall listD (aCons (eUn (fldD A.CPlan "fore") (eVar 0)) (aNil))) (eLcQ [2] (iSeq (eUn revD (eUn (fldD A.CPlan "rear") (eVar 0)))) (gSet 2) (tYesD) (eBin subD (eBin addD (eVar 1) (eC (.int 1))) (eVar 2))))
theorem eq_lost_of (A : Ads) : ∀ ds, f_lost_of A ds ≠ .stuck → finP (gb_lost_of A (ds.map Lt.S.val ++ List.replicate (3 - ds.length) Lt.S.no)) = f_lost_of A ds := by
  refine P2.all fun p n h => ?_
  split at h
  · rename_i f b x n hp
    have ep := dePlan_is hp
    subst ep
    split at h
    · rename_i hz
      rw [if_pos hz]
      have l1 := lcD_all (vs := [2]) (gt := gSet 2) (ge := eBin subD (eBin addD (eVar 1) (eC (.int 1))) (eVar 2)) (c := [.val (dPlan A f b x), .val (.int n), .no]) D.int (fun d => [.val (dPlan A f b x), .val (.int n), .val (.int d)]) (fun d => .int (n + 1 - d)) b.reverse
        [.val (dPlan A f b x), .val (.int n), .no] rfl (fun a ha => ⟨rfl, by simp, rfl⟩) (by rw [List.length_reverse]; exact size_le (by omega))
      have e1 : addD (.lst (f.map .int)) (.lst (b.reverse.map fun d => D.int (n + 1 - d))) = some (.lst ((lostL f b n).map .int)) := by
        unfold addD
        dsimp only
        rw [if_pos (by simp; exact size_le (by omega))]
        simp [lostL, List.map_map, Function.comp_def]
      unfold gb_lost_of
      rw [List.map_reverse] at l1
      simp [l1, e1, -List.map_reverse]
    · exact absurd rfl h
  · exact absurd rfl h
noncomputable def f_need_number (A : Ads) : PFs := P3 fun p n m => match dePlan A p, m with
  | some (f, b, x), .int m => if tyd n = true then if wB (least f b) m n = true then .ok (.val .non) else .exc A.CBadNumber ["n"] [n] else .stuck
  | _, _ => .stuck
noncomputable def gb_need_number (A : Ads) : Rho → Fl :=
  sIf (bNot (eTest (eFn f_is_within (aCons (eVar 1) (aCons (eUn (fldD A.CPlan "first") (eVar 0)) (aCons (eVar 2) (aNil))))))) (sRaise A.CBadNumber ["n"] (aCons (eVar 1) (aNil))) (sNext)
theorem eq_need_number (A : Ads) : ∀ ds, f_need_number A ds ≠ .stuck → finP (gb_need_number A (ds.map Lt.S.val ++ List.replicate (3 - ds.length) Lt.S.no)) = f_need_number A ds := by
  refine P3.all fun p n m h => ?_
  split at h
  · rename_i f b x m hp
    have ep := dePlan_is hp
    subst ep
    split at h
    · rename_i hz
      rw [if_pos hz]
      have w := within_ok (d := n) (l := least f b) (u := m) hz
      unfold gb_need_number
      by_cases c : wB (least f b) m n = true
      · rw [c] at w
        rw [if_pos c]
        simp [w]
      · rw [if_neg c]
        have c' : wB (least f b) m n = false := by simpa using c
        rw [c'] at w
        simp [w]
    · exact absurd rfl h
  · exact absurd rfl h
noncomputable def f_need_guest (A : Ads) : PFs := P2 fun n j => match n with
  | .int n => if tyd j = true then if wB 1 n j = true then .ok (.val .non) else .exc A.CBadGuest ["j"] [j] else .stuck
  | _ => .stuck
noncomputable def gb_need_guest (A : Ads) : Rho → Fl :=
  sIf (bNot (eTest (eFn f_is_within (aCons (eVar 1) (aCons (eC (.int 1)) (aCons (eVar 0) (aNil))))))) (sRaise A.CBadGuest ["j"] (aCons (eVar 1) (aNil))) (sNext)
theorem eq_need_guest (A : Ads) : ∀ ds, f_need_guest A ds ≠ .stuck → finP (gb_need_guest A (ds.map Lt.S.val ++ List.replicate (2 - ds.length) Lt.S.no)) = f_need_guest A ds := by
  refine P2.all fun n j h => ?_
  split at h
  · rename_i n
    split at h
    · rename_i hz
      rw [if_pos hz]
      have w := within_ok (d := j) (l := 1) (u := n) hz
      unfold gb_need_guest
      by_cases c : wB 1 n j = true
      · rw [c] at w
        rw [if_pos c]
        simp [w]
      · rw [if_neg c]
        have c' : wB 1 n j = false := by simpa using c
        rw [c'] at w
        simp [w]
    · exact absurd rfl h
  · exact absurd rfl h
end Lt

/-! # Chances, continued -/
namespace Lt
open PySem PySem.Spec L2
def aheadN (L : List Int) (j : Int) : Nat := (L.filter fun x => decide (x < j)).length
noncomputable def f_lost_ahead : PFs := P2 fun l j => match l, j with
  | .lst ds, .int j => match asInts ds with
    | some L => if L.length ≤ 1000 then .ok (.val (.int (aheadN L j))) else .stuck
    | none => .stuck
  | _, _ => .stuck
theorem lost_ahead_ok {L : List Int} {j : Int} (h : L.length ≤ 1000) : f_lost_ahead [.lst (L.map .int), .int j] = .ok (.val (.int (aheadN L j))) := by
  unfold f_lost_ahead P2
  simp [asInts_map, h]
noncomputable def gb_lost_ahead : Rho → Fl :=
  sRet (eCall lenD (aCons (eLcQ [2] (iSeq (eVar 0)) (gSet 2) (eTest (eBin ltD (eVar 2) (eVar 1))) (eVar 2)) (aNil)))
theorem eq_lost_ahead : ∀ ds, f_lost_ahead ds ≠ .stuck → finP (gb_lost_ahead (ds.map Lt.S.val ++ List.replicate (3 - ds.length) Lt.S.no)) = f_lost_ahead ds := by
  refine P2.all fun l j h => ?_
  split at h
  · rename_i ds j
    cases e : asInts ds with
    | none => rw [e] at h; exact absurd rfl h
    | some L =>
      rw [e] at h
      have := asInts_is e
      subst this
      dsimp only at h ⊢
      split at h
      · rename_i hz
        rw [if_pos hz]
        have l1 := lcD_by (vs := [2]) (gt := gSet 2) (t := eTest (eBin ltD (eVar 2) (eVar 1))) (ge := eVar 2) (c := [.val (.lst (L.map .int)), .val (.int j), .no]) D.int (fun d => [.val (.lst (L.map .int)), .val (.int j), .val (.int d)]) (fun x => decide (x < j)) D.int L []
          [.val (.lst (L.map .int)), .val (.int j), .no] rfl (fun a ha => ⟨rfl, by simp, by simp, rfl⟩) (by simp; exact size_le (by omega))
        unfold gb_lost_ahead
        simp [l1, aheadN]
      · exact absurd rfl h
  · exact absurd rfl h
/-- of the lost ones ahead of j: all of their products -/
def freeF (n : Int) (q : Rat) (x : Int) : Rat := q * (((n - x : Int) : Rat) / ((n - x + 1 : Int) : Rat))
def freeQ (L : List Int) (n j : Int) : Rat := (L.filter fun x => decide (x < j)).foldl (freeF n) 1
def okL (L : List Int) (n : Int) : Prop := L.length ≤ 6 ∧ n ≤ 100000 ∧ ∀ x ∈ L, 1 ≤ x ∧ x ≤ n
theorem okL.tail {x : Int} {L : List Int} {n : Int} (h : okL (x :: L) n) : okL L n := ⟨by have := h.1; simp at this; omega, h.2.1, fun y hy => h.2.2 y (List.mem_cons_of_mem _ hy)⟩
theorem free_szq (n : Int) (hn : n ≤ 100000) : ∀ (L : List Int) (k : Nat) (q : Rat), szq (2 ^ k) q → (∀ x ∈ L, 1 ≤ x ∧ x ≤ n) → szq (2 ^ (k + 17 * L.length)) (L.foldl (freeF n) q)
  | [], k, q, h, _ => by simpa using h
  | x :: L, k, q, h, hL => by
    obtain ⟨h1, h2⟩ := hL x List.mem_cons_self
    have d : szq (2 ^ 17) (((n - x : Int) : Rat) / ((n - x + 1 : Int) : Rat)) := szq_div (by omega) (by omega) (by omega)
    have m := szq_mul h d
    rw [← Nat.pow_add] at m
    have := free_szq n hn L (k + 17) _ m fun y hy => hL y (List.mem_cons_of_mem _ hy)
    rw [List.foldl_cons, List.length_cons]
    have e : k + 17 * (L.length + 1) = k + 17 + 17 * L.length := by omega
    rw [e]
    exact this
theorem freeQ_szq {L : List Int} {n j : Int} (h : okL L n) : szq (2 ^ 102) (freeQ L n j) := by
  have := free_szq n h.2.1 (L.filter fun x => decide (x < j)) 0 1 szq_one fun x hx => h.2.2 x (List.mem_filter.mp hx).1
  refine szq_mono this (Nat.pow_le_pow_right (by decide) ?_)
  have := List.length_filter_le (fun x => decide (x < j)) L
  have := h.1
  omega
open Classical in
noncomputable def f_free_share : PFs := P3 fun l n j => match l, n, j with
  | .lst ds, .int n, .int j => match asInts ds with
    | some L => if okL L n then .ok (.val (fr (freeQ L n j))) else .stuck
    | none => .stuck
  | _, _, _ => .stuck
theorem free_share_ok {L : List Int} {n j : Int} (h : okL L n) : f_free_share [.lst (L.map .int), .int n, .int j] = .ok (.val (fr (freeQ L n j))) := by
  unfold f_free_share P3
  simp [asInts_map, h]
noncomputable def gb_free_share : Rho → Fl :=
  sSeq (sSet 3 (eC (fr 1))) (sSeq (sFor (iSeq (eVar 0)) (gSet 4) (sIf (eTest (eBin ltD (eVar 4) (eVar 2))) (sSet 3 (eFn f_product (aCons (eVar 3) (aCons (eFn f_fraction (aCons (eBin subD (eVar 1) (eVar 4)) (aCons (eBin addD (eBin subD (eVar 1) (eVar 4)) (eC (.int 1))) (aNil)))) (aNil))))) (sNext))) (sRet (eVar 3)))
theorem eq_free_share : ∀ ds, f_free_share ds ≠ .stuck → finP (gb_free_share (ds.map Lt.S.val ++ List.replicate (5 - ds.length) Lt.S.no)) = f_free_share ds := by
  refine P3.all fun l n j h => ?_
  split at h
  · rename_i ds n j
    cases e : asInts ds with
    | none => rw [e] at h; exact absurd rfl h
    | some L =>
      rw [e] at h
      have := asInts_is e
      subst this
      dsimp only at h ⊢
      split at h
      · rename_i hz
        rw [if_pos hz]
        obtain ⟨ρ', w1, ov, w2⟩ := for_inv (gt := gSet 4) (body := sIf (eTest (eBin ltD (eVar 4) (eVar 2))) (sSet 3 (eFn f_product (aCons (eVar 3) (aCons (eFn f_fraction (aCons (eBin subD (eVar 1) (eVar 4)) (aCons (eBin addD (eBin subD (eVar 1) (eVar 4)) (eC (.int 1))) (aNil)))) (aNil))))) (sNext)) D.int
          (fun done ρ => ∃ s, ρ = [.val (.lst (L.map .int)), .val (.int n), .val (.int j), .val (fr (freeQ done n j)), s]) L (ρ := [.val (.lst (L.map .int)), .val (.int n), .val (.int j), .val (fr 1), .no]) ⟨_, rfl⟩ (by
            rintro done a rest ρ eL ⟨s, rfl⟩
            have ha := hz.2.2 a (by rw [eL]; simp)
            have hn := hz.2.1
            have hd : okL done n := ⟨by have := hz.1; rw [eL] at this; simp at this; omega, hn, fun x hx => hz.2.2 x (by rw [eL]; simp [hx])⟩
            refine ⟨_, [.val (.lst (L.map .int)), .val (.int n), .val (.int j), .val (fr (freeQ (done ++ [a]) n j)), .val (.int a)], rfl, ?_, _, rfl⟩
            by_cases c : a < j
            · have f1 := fraction_ok (i := n - a) (j := n - a + 1) (ss_sm (ss_small (by omega) (by omega))) (ss_sm (ss_small (by omega) (by omega))) (by omega)
              have sz : szq (2 ^ 17) (((n - a : Int) : Rat) / ((n - a + 1 : Int) : Rat)) := szq_div (by omega) (by omega) (by omega)
              have f2 := product_ok (szq_sq (freeQ_szq (j := j) hd) (by decide)) (szq_sq sz (by decide))
              have e3 : freeQ (done ++ [a]) n j = freeQ done n j * (((n - a : Int) : Rat) / ((n - a + 1 : Int) : Rat)) := by
                unfold freeQ
                rw [List.filter_append, List.foldl_append]
                simp [c, freeF]
              rw [← e3] at f2
              simp [c, f1, f2, -Rat.intCast_sub, -Rat.intCast_add]
            · have e3 : freeQ (done ++ [a]) n j = freeQ done n j := by
                unfold freeQ
                rw [List.filter_append]
                simp [c]
              simp [c, e3])
        subst w2
        unfold gb_free_share
        simp [w1]
      · exact absurd rfl h
  · exact absurd rfl h
end Lt

/-! # Chances by a rule -/
namespace Lt
open PySem PySem.Spec L2
def shareQ (x : Str) (L : List Int) (n j : Int) : Rat := if x = sLow then freeQ L n j else ((n - j + 1 : Int) : Rat) / ((n - j + 1 + aheadN L j : Int) : Rat)
def chQ (x : Str) (L : List Int) (n j : Int) : Rat :=
  if x = sAsks then if j ∈ L then 1 / ((L.length : Int) : Rat) else 1
  else if j ∈ L then shareQ x L n j * (1 / ((n - j + 1 : Int) : Rat)) else shareQ x L n j
theorem aheadN_le (L : List Int) (j : Int) : aheadN L j ≤ L.length := List.length_filter_le _ _
theorem shareQ_szq {x : Str} {L : List Int} {n j : Int} (h : okL L n) (h1 : 1 ≤ j) (h2 : j ≤ n) : szq (2 ^ 102) (shareQ x L n j) := by
  unfold shareQ
  split
  · exact freeQ_szq h
  · have := aheadN_le L j
    have := h.1
    have := h.2.1
    exact szq_mono (szq_div (B := 2 ^ 18) (by omega) (by omega) (by omega)) (Nat.pow_le_pow_right (by decide) (by decide))
theorem chQ_szq {x : Str} {L : List Int} {n j : Int} (h : okL L n) (h1 : 1 ≤ j) (h2 : j ≤ n) : szq (2 ^ 122) (chQ x L n j) := by
  have := h.2.1
  have := h.1
  unfold chQ
  split
  · split
    · rename_i hm
      have hp := List.length_pos_of_mem hm
      have := szq_div (B := 2 ^ 18) (i := 1) (j := L.length) (by decide) (by omega) (by omega)
      exact szq_mono (B := 2 ^ 18) (by simpa using this) (Nat.pow_le_pow_right (by decide) (by decide))
    · exact szq_mono szq_one (by decide)
  · split
    · have d := szq_div (B := 2 ^ 18) (i := 1) (j := n - j + 1) (by decide) (by omega) (by omega)
      have m := szq_mul (shareQ_szq (x := x) h h1 h2) d
      rw [← Nat.pow_add] at m
      exact szq_mono m (Nat.pow_le_pow_right (by decide) (by decide))
    · exact szq_mono (shareQ_szq h h1 h2) (Nat.pow_le_pow_right (by decide) (by decide))
open Classical in
noncomputable def f_chance_by : PFs := P4 fun r l n j => match r, l, n, j with
  | .str x, .lst ds, .int n, .int j => match asInts ds with
    | some L => if isRule x = true ∧ okL L n ∧ 1 ≤ j ∧ j ≤ n then .ok (.val (fr (chQ x L n j))) else .stuck
    | none => .stuck
  | _, _, _, _ => .stuck
theorem chance_by_ok {x : Str} {L : List Int} {n j : Int} (h0 : isRule x = true) (h : okL L n) (h1 : 1 ≤ j) (h2 : j ≤ n) : f_chance_by [.str x, .lst (L.map .int), .int n, .int j] = .ok (.val (fr (chQ x L n j))) := by
  unfold f_chance_by P4
  simp [asInts_map, h0, h, h1, h2]
theorem strOk_rule {x : Str} (h : isRule x = true) : PyData.strOk x = true := by
  unfold isRule at h
  have h' : x = sAny ∨ x = sAsks ∨ x = sLow := by simpa using h
  rcases h' with rfl | rfl | rfl <;> decide +kernel
theorem okP_str {x : Str} (h : PyData.strOk x = true) : okP (.str x) = true := okP_shp (n := 0) h (by decide)
theorem eq_str {x y : Str} (h : PyData.strOk x = true) (h2 : PyData.strOk y = true) : eqD (.str x) (.str y) = some (.bl (decide (x = y))) := by
  rw [rd_eq (okP_str h) (okP_str h2), eqB_str]
theorem ne_str {x y : Str} (h : PyData.strOk x = true) (h2 : PyData.strOk y = true) : neD (.str x) (.str y) = some (.bl (!decide (x = y))) := by
  rw [rd_ne (okP_str h) (okP_str h2), eqB_str]
noncomputable def gb_chance_by : Rho → Fl :=
  sSeq (sPar 4 5 (aCons (eFn f_lost_ahead (aCons (eVar 1) (aCons (eVar 3) (aNil)))) (aCons (eBin addD (eBin subD (eVar 2) (eVar 3)) (eC (.int 1))) (aNil)))) (sSeq (sIf (eTest (eBin eqD (eVar 0) (eC (.str (PySem.Str.ofString "asks"))))) (sRet (eIf (eTest (eBin (inD false) (eVar 3) (eVar 1))) (eTup (aCons (eC (.int 1)) (aCons (eCall lenD (aCons (eVar 1) (aNil))) (aNil)))) (eC (fr 1)))) (sNext)) (sSeq (sSet 6 (eIf (eTest (eBin eqD (eVar 0) (eC (.str (PySem.Str.ofString "low"))))) (eFn f_free_share (aCons (eVar 1) (aCons (eVar 2) (aCons (eVar 3) (aNil))))) (eFn f_fraction (aCons (eVar 5) (aCons (eBin addD (eVar 5) (eVar 4)) (aNil)))))) (sRet (eIf (eTest (eBin (inD false) (eVar 3) (eVar 1))) (eFn f_product (aCons (eVar 6) (aCons (eTup (aCons (eC (.int 1)) (aCons (eVar 5) (aNil)))) (aNil)))) (eVar 6)))))
theorem eq_chance_by : ∀ ds, f_chance_by ds ≠ .stuck → finP (gb_chance_by (ds.map Lt.S.val ++ List.replicate (7 - ds.length) Lt.S.no)) = f_chance_by ds := by
  refine P4.all fun r l n j h => ?_
  split at h
  · rename_i x ds n j
    cases e : asInts ds with
    | none => rw [e] at h; exact absurd rfl h
    | some L =>
      rw [e] at h
      have := asInts_is e
      subst this
      dsimp only at h ⊢
      split at h
      · rename_i hz
        rw [if_pos hz]
        obtain ⟨h0, hL, h1, h2⟩ := hz
        have hn := hL.2.1
        have hl := hL.1
        have hs := strOk_rule h0
        have e1 := eq_str (y := sAsks) hs (by decide +kernel)
        have e2 := eq_str (y := sLow) hs (by decide +kernel)
        have a1 := lost_ahead_ok (j := j) (show L.length ≤ 1000 by omega)
        have i1 := rd_in false j L
        have la := aheadN_le L j
        have f1 := free_share_ok (j := j) hL
        have f2 := fraction_ok (i := n - j + 1) (j := n - j + 1 + aheadN L j) (ss_sm (ss_small (by omega) (by omega))) (ss_sm (ss_small (by omega) (by omega))) (by omega)
        have v1 := fr_inv (k := n - j + 1) (by omega)
        have d := szq_div (B := 2 ^ 18) (i := 1) (j := n - j + 1) (by decide) (by omega) (by omega)
        have d' : szq (2 ^ 18) (1 / ((n - j + 1 : Int) : Rat)) := by simpa using d
        have m1 := product_ok (szq_sq (shareQ_szq (x := x) hL h1 h2) (by decide)) (szq_sq d' (by decide))
        unfold gb_chance_by
        change eqD (.str x) (.str (PySem.Str.ofString "asks")) = _ at e1
        change eqD (.str x) (.str (PySem.Str.ofString "low")) = _ at e2
        by_cases c1 : x = sAsks
        · by_cases c2 : j ∈ L
          · have hp := List.length_pos_of_mem c2
            have v2 := fr_inv (k := L.length) (by omega)
            have c3 : chQ x L n j = 1 / ((L.length : Int) : Rat) := by unfold chQ; rw [if_pos c1, if_pos c2]
            rw [c3]
            rw [decide_eq_true c1] at e1
            simp [a1, e1, i1, c2, v2, -Rat.intCast_natCast]
          · have c3 : chQ x L n j = 1 := by unfold chQ; rw [if_pos c1, if_neg c2]
            rw [c3]
            rw [decide_eq_true c1] at e1
            simp [a1, e1, i1, c2]
        · rw [decide_eq_false c1] at e1
          have sh : shareQ x L n j = if x = sLow then freeQ L n j else ((n - j + 1 : Int) : Rat) / ((n - j + 1 + aheadN L j : Int) : Rat) := rfl
          by_cases c2 : j ∈ L
          · have c3 : chQ x L n j = shareQ x L n j * (1 / ((n - j + 1 : Int) : Rat)) := by unfold chQ; rw [if_neg c1, if_pos c2]
            rw [c3]
            by_cases c4 : x = sLow
            · rw [if_pos c4] at sh
              rw [decide_eq_true c4] at e2
              rw [← sh] at f1
              generalize shareQ x L n j = q at *
              simp [a1, e1, e2, i1, c2, f1, v1, m1, -Rat.intCast_sub, -Rat.intCast_add]
            · rw [if_neg c4] at sh
              rw [decide_eq_false c4] at e2
              rw [← sh] at f2
              generalize shareQ x L n j = q at *
              simp [a1, e1, e2, i1, c2, f2, v1, m1, -Rat.intCast_sub, -Rat.intCast_add]
          · have c3 : chQ x L n j = shareQ x L n j := by unfold chQ; rw [if_neg c1, if_neg c2]
            rw [c3]
            by_cases c4 : x = sLow
            · rw [if_pos c4] at sh
              rw [decide_eq_true c4] at e2
              rw [← sh] at f1
              generalize shareQ x L n j = q at *
              simp [a1, e1, e2, i1, c2, f1]
            · rw [if_neg c4] at sh
              rw [decide_eq_false c4] at e2
              rw [← sh] at f2
              generalize shareQ x L n j = q at *
              simp [a1, e1, e2, i1, c2, f2]
      · exact absurd rfl h
  · exact absurd rfl h
end Lt

/-! # All chances of a hall -/
namespace Lt
open PySem PySem.Spec L2
def chL (x : Str) (L : List Int) (n : Int) : List Rat := (rng 1 (n + 1)).map (chQ x L n)
open Classical in
noncomputable def f_chances_by : PFs := P3 fun r l n => match r, l, n with
  | .str x, .lst ds, .int n => match asInts ds with
    | some L => if isRule x = true ∧ okL L n ∧ 1 ≤ n then .ok (.val (.lst ((chL x L n).map fr))) else .stuck
    | none => .stuck
  | _, _, _ => .stuck
theorem chances_by_ok {x : Str} {L : List Int} {n : Int} (h0 : isRule x = true) (h : okL L n) (h1 : 1 ≤ n) : f_chances_by [.str x, .lst (L.map .int), .int n] = .ok (.val (.lst ((chL x L n).map fr))) := by
  unfold f_chances_by P3
  simp [asInts_map, h0, h, h1]
noncomputable def gb_chances_by : Rho → Fl :=
  sRet (eLcQ [3] (iRng2D (aCons (eC (.int 1)) (aCons (eBin addD (eVar 2) (eC (.int 1))) (aNil)))) (gSet 3) (tYesD) (eFn f_chance_by (aCons (eVar 0) (aCons (eVar 1) (aCons (eVar 2) (aCons (eVar 3) (aNil)))))))
theorem big62 : ((100001 : Int)) < 2 ^ 62 := by decide
theorem rng_ok {lo hi : Int} (h1 : -100000 ≤ lo) (h2 : lo ≤ 100001) (h3 : -100000 ≤ hi) (h4 : hi ≤ 100001) : ((-(2 ^ 62) ≤ lo ∧ lo < 2 ^ 62) ∧ -(2 ^ 62) ≤ hi ∧ hi < 2 ^ 62) := by
  have := big62
  refine ⟨⟨?_, ?_⟩, ?_, ?_⟩ <;> omega
theorem eq_chances_by : ∀ ds, f_chances_by ds ≠ .stuck → finP (gb_chances_by (ds.map Lt.S.val ++ List.replicate (4 - ds.length) Lt.S.no)) = f_chances_by ds := by
  refine P3.all fun r l n h => ?_
  split at h
  · rename_i x ds n
    cases e : asInts ds with
    | none => rw [e] at h; exact absurd rfl h
    | some L =>
      rw [e] at h
      have := asInts_is e
      subst this
      dsimp only at h ⊢
      split at h
      · rename_i hz
        rw [if_pos hz]
        obtain ⟨h0, hL, h1⟩ := hz
        have hn := hL.2.1
        have l1 := lcD_all (vs := [3]) (gt := gSet 3) (ge := eFn f_chance_by (aCons (eVar 0) (aCons (eVar 1) (aCons (eVar 2) (aCons (eVar 3) (aNil)))))) (c := [.val (.str x), .val (.lst (L.map .int)), .val (.int n), .no]) D.int (fun d => [.val (.str x), .val (.lst (L.map .int)), .val (.int n), .val (.int d)]) (fun d => fr (chQ x L n d)) (rng 1 (n + 1))
          [.val (.str x), .val (.lst (L.map .int)), .val (.int n), .no] rfl (fun a ha => ⟨rfl, by have := mem_rng.mp ha; simp [chance_by_ok h0 hL this.1 (show a ≤ n by omega)], rfl⟩) (by rw [rng_length]; exact size_le (by omega))
        have ro := rng_ok (lo := 1) (hi := n + 1) (by decide) (by decide) (by omega) (by omega)
        unfold gb_chances_by
        simp [-Int.reducePow, -Int.reduceNeg, ro, iRange_rng, l1, chL, List.map_map, Function.comp_def]
      · exact absurd rfl h
  · exact absurd rfl h
/-- plans as they are drawn or made -/
structure okP3 (f b : List Int) (x : Str) : Prop where
  f : okF f = true
  b : okB b = true
  x : isRule x = true
theorem last0_mem (ns : List Int) : last0 ns = 0 ∨ last0 ns ∈ ns := by
  unfold last0
  cases h : ns.getLast? with
  | none => exact .inl rfl
  | some a => exact .inr (List.mem_of_getLast? h)
theorem asc_last : ∀ {ns : List Int}, asc ns = true → ∀ v ∈ ns, v ≤ last0 ns
  | [], _, v, h => by cases h
  | [a], _, v, h => by
    have : v = a := by simpa using h
    subst this
    exact Int.le_refl _
  | a :: b :: r, h, v, hv => by
    have h2 : asc (b :: r) = true ∧ a < b := by
      unfold asc at h ⊢
      simp only [List.tail_cons, List.zip_cons_cons, List.all_cons, Bool.and_eq_true] at h
      exact ⟨by simpa using h.2, of_decide_eq_true h.1⟩
    have e : last0 (a :: b :: r) = last0 (b :: r) := by unfold last0; simp
    rw [e]
    rcases List.mem_cons.mp hv with rfl | hv
    · have := asc_last h2.1 b List.mem_cons_self
      omega
    · exact asc_last h2.1 v hv
theorem okF_asc {f : List Int} (h : okF f = true) : asc f = true := by
  unfold okF at h
  rw [placesB_ints, Bool.and_eq_true, Bool.and_eq_true] at h
  exact h.2.2
theorem okB_asc {f : List Int} (h : okB f = true) : asc f = true := by
  unfold okB at h
  rw [placesB_ints, Bool.and_eq_true, Bool.and_eq_true] at h
  exact h.2.2
theorem last0_pos {ns : List Int} (h : ∀ v ∈ ns, 1 ≤ v) : 0 ≤ last0 ns := by
  rcases last0_mem ns with e | e
  · omega
  · have := h _ e; omega
theorem okL_lost {f b : List Int} {x : Str} {n : Int} (h : okP3 f b x) (hn : least f b ≤ n) (h2 : n ≤ 100000) : okL (lostL f b n) n := by
  have l1 := okF_len h.f
  have l2 := okB_len h.b
  have m1 := okF_mem h.f
  have m2 := okB_mem h.b
  have a1 := asc_last (okF_asc h.f)
  have a2 := asc_last (okB_asc h.b)
  have p1 := last0_pos fun v hv => (m1 v hv).1
  have p2 := last0_pos fun v hv => (m2 v hv).1
  unfold least at hn
  refine ⟨by unfold lostL; simp; omega, h2, fun v hv => ?_⟩
  unfold lostL at hv
  rcases List.mem_append.mp hv with hv | hv
  · have := m1 v hv; have := a1 v hv; omega
  · obtain ⟨p, hp, rfl⟩ := List.mem_map.mp hv
    have hp := List.mem_reverse.mp hp
    have := m2 p hp; have := a2 p hp; omega
def chP (f b : List Int) (x : Str) (n : Int) : List Rat := chL x (lostL f b n) n
theorem least_pos (f b : List Int) : 1 ≤ least f b := by unfold least; omega
theorem wB_int {l u n : Int} : wB l u (.int n) = (decide (l ≤ n) && decide (n ≤ u)) := rfl
theorem wB_is {l u : Int} {d : D} (h : wB l u d = true) : ∃ n : Int, d = .int n ∧ l ≤ n ∧ n ≤ u := by
  cases d <;> (try exact absurd h Bool.false_ne_true)
  rename_i n
  rw [wB_int, Bool.and_eq_true] at h
  exact ⟨n, rfl, of_decide_eq_true h.1, of_decide_eq_true h.2⟩
theorem need_number_ok {A : Ads} {f b : List Int} {x : Str} {n m : Int} (h1 : least f b ≤ n) (h2 : n ≤ m) : f_need_number A [dPlan A f b x, .int n, .int m] = .ok (.val .non) := by
  unfold f_need_number P3
  simp [h1, h2, tyd, tyName, wB_int]
theorem need_number_bad {A : Ads} {f b : List Int} {x : Str} {m : Int} {n : D} (h1 : tyd n = true) (h2 : wB (least f b) m n = false) : f_need_number A [dPlan A f b x, n, .int m] = .exc A.CBadNumber ["n"] [n] := by
  unfold f_need_number P3
  simp [h1, h2]
theorem need_guest_ok {A : Ads} {n j : Int} (h1 : 1 ≤ j) (h2 : j ≤ n) : f_need_guest A [.int n, .int j] = .ok (.val .non) := by
  unfold f_need_guest P2
  simp [h1, h2, tyd, tyName, wB_int]
theorem need_guest_bad {A : Ads} {n : Int} {j : D} (h1 : tyd j = true) (h2 : wB 1 n j = false) : f_need_guest A [.int n, j] = .exc A.CBadGuest ["j"] [j] := by
  unfold f_need_guest P2
  simp [h1, h2]
open Classical in
noncomputable def f_chances (A : Ads) : PFs := P2 fun p n => match dePlan A p with
  | some (f, b, x) => if okP3 f b x ∧ tyd n = true then if wB (least f b) 2000 n = true then match n with | .int n => .ok (.val (.lst ((chP f b x n).map fr))) | _ => .stuck else .exc A.CBadNumber ["n"] [n] else .stuck
  | _ => .stuck
theorem chances_ok {A : Ads} {f b : List Int} {x : Str} {n : Int} (h : okP3 f b x) (h1 : least f b ≤ n) (h2 : n ≤ 2000) : f_chances A [dPlan A f b x, .int n] = .ok (.val (.lst ((chP f b x n).map fr))) := by
  unfold f_chances P2
  simp [h, h1, h2, tyd, tyName, wB_int]
noncomputable def gb_chances (A : Ads) : Rho → Fl :=
  sSeq (sExpr (eFn (f_need_number A) (aCons (eVar 0) (aCons (eVar 1) (aCons (eC (.int 2000)) (aNil)))))) (sRet (eFn f_chances_by (aCons (eUn (fldD A.CPlan "way") (eVar 0)) (aCons (eFn (f_lost_of A) (aCons (eVar 0) (aCons (eVar 1) (aNil)))) (aCons (eVar 1) (aNil))))))
theorem eq_chances (A : Ads) : ∀ ds, f_chances A ds ≠ .stuck → finP (gb_chances A (ds.map Lt.S.val ++ List.replicate (2 - ds.length) Lt.S.no)) = f_chances A ds := by
  refine P2.all fun p n h => ?_
  split at h
  · rename_i f b x hp
    have ep := dePlan_is hp
    subst ep
    split at h
    · rename_i hz
      rw [if_pos hz]
      obtain ⟨h0, ht⟩ := hz
      unfold gb_chances
      by_cases c : wB (least f b) 2000 n = true
      · rw [if_pos c]
        obtain ⟨n, rfl, h1, h2⟩ := wB_is c
        have q1 := need_number_ok (A := A) (x := x) h1 h2
        have q2 := lost_of_ok (A := A) (x := x) (n := n) (okF_len h0.f) (okB_len h0.b)
        have q3 := chances_by_ok h0.x (okL_lost h0 h1 (by omega)) (Int.le_trans (least_pos f b) h1)
        simp [q1, q2, q3, chP]
      · rw [if_neg c]
        have q1 := need_number_bad (A := A) (x := x) (m := 2000) ht (by simpa using c)
        simp [q1]
    · exact absurd rfl h
  · exact absurd rfl h
open Classical in
noncomputable def f_chance (A : Ads) : PFs := P3 fun p n j => match dePlan A p with
  | some (f, b, x) => if okP3 f b x ∧ tyd n = true ∧ tyd j = true then if wB (least f b) 2000 n = true then match n with
      | .int n => if wB 1 n j = true then match j with | .int j => .ok (.val (fr (chQ x (lostL f b n) n j))) | _ => .stuck else .exc A.CBadGuest ["j"] [j]
      | _ => .stuck
    else .exc A.CBadNumber ["n"] [n] else .stuck
  | _ => .stuck
theorem chance_ok {A : Ads} {f b : List Int} {x : Str} {n j : Int} (h : okP3 f b x) (h1 : least f b ≤ n) (h2 : n ≤ 2000) (h3 : 1 ≤ j) (h4 : j ≤ n) : f_chance A [dPlan A f b x, .int n, .int j] = .ok (.val (fr (chQ x (lostL f b n) n j))) := by
  unfold f_chance P3
  simp [h, h1, h2, h3, h4, tyd, tyName, wB_int]
noncomputable def gb_chance (A : Ads) : Rho → Fl :=
  sSeq (sExpr (eFn (f_need_number A) (aCons (eVar 0) (aCons (eVar 1) (aCons (eC (.int 2000)) (aNil)))))) (sSeq (sExpr (eFn (f_need_guest A) (aCons (eVar 1) (aCons (eVar 2) (aNil))))) (sRet (eFn f_chance_by (aCons (eUn (fldD A.CPlan "way") (eVar 0)) (aCons (eFn (f_lost_of A) (aCons (eVar 0) (aCons (eVar 1) (aNil)))) (aCons (eVar 1) (aCons (eVar 2) (aNil))))))))
theorem eq_chance (A : Ads) : ∀ ds, f_chance A ds ≠ .stuck → finP (gb_chance A (ds.map Lt.S.val ++ List.replicate (3 - ds.length) Lt.S.no)) = f_chance A ds := by
  refine P3.all fun p n j h => ?_
  split at h
  · rename_i f b x hp
    have ep := dePlan_is hp
    subst ep
    split at h
    · rename_i hz
      rw [if_pos hz]
      obtain ⟨h0, ht, hj⟩ := hz
      unfold gb_chance
      by_cases c : wB (least f b) 2000 n = true
      · rw [if_pos c]
        obtain ⟨n, rfl, h1, h2⟩ := wB_is c
        have q1 := need_number_ok (A := A) (x := x) h1 h2
        by_cases c2 : wB 1 n j = true
        · obtain ⟨j, rfl, h3, h4⟩ := wB_is c2
          have q2 := lost_of_ok (A := A) (x := x) (n := n) (okF_len h0.f) (okB_len h0.b)
          have q3 := chance_by_ok h0.x (okL_lost h0 h1 (by omega)) h3 h4
          have q4 := need_guest_ok (A := A) h3 h4
          simp only [c2, if_true]
          simp [q1, q2, q3, q4]
        · have q4 := need_guest_bad (A := A) hj (by simpa using c2)
          simp only [if_neg c2]
          simp [q1, q4]
      · rw [if_neg c]
        have q1 := need_number_bad (A := A) (x := x) (m := 2000) ht (by simpa using c)
        simp [q1]
    · exact absurd rfl h
  · exact absurd rfl h
end Lt

/-! # What the laws draw -/
namespace Lt
open PySem PySem.Spec L2
/-- the state of the drawing: the script, the place in it, the mixed number, the rest of a great cell -/
structure Rw where
  ns : List Int
  p : Int
  m : Int
  c : Int
structure Rw.Ok (r : Rw) : Prop where
  p : 0 ≤ r.p
  m : 0 ≤ r.m ∧ r.m < 2147483647
  c : 0 ≤ r.c
def Rw.l (r : Rw) : List D := [.scr r.ns, .int r.p, .int r.m, .int r.c]
def taken (r : Rw) (k : Int) : Int × Rw :=
  if 0 < r.c then (r.c % k, { r with c := r.c / k })
  else if (r.ns.length : Int) < r.p + 1 then ((((r.m * 48271 + 11) % 2147483647) / 7) % k, { r with p := r.p + 1, m := (r.m * 48271 + 11) % 2147483647 })
  else (r.ns.getD r.p.toNat 0 % k, { r with p := r.p + 1, m := (r.m * 48271 + r.ns.getD r.p.toNat 0 + 11) % 2147483647, c := if 10 ^ 18 ≤ r.ns.getD r.p.toNat 0 then r.ns.getD r.p.toNat 0 / k else r.c })
theorem taken_ok {r : Rw} {k : Int} (h : r.Ok) (hk : 0 < k) : (taken r k).2.Ok ∧ 0 ≤ (taken r k).1 ∧ (taken r k).1 < k ∧ (taken r k).2.ns = r.ns := by
  obtain ⟨h1, h2, h3⟩ := h
  unfold taken
  split
  · exact ⟨⟨h1, h2, Int.ediv_nonneg h3 (by omega)⟩, Int.emod_nonneg _ (by omega), Int.emod_lt_of_pos _ hk, rfl⟩
  · split
    · exact ⟨⟨by show 0 ≤ r.p + 1; omega, ⟨Int.emod_nonneg _ (by decide), Int.emod_lt_of_pos _ (by decide)⟩, h3⟩, Int.emod_nonneg _ (by omega), Int.emod_lt_of_pos _ hk, rfl⟩
    · refine ⟨⟨by show 0 ≤ r.p + 1; omega, ⟨Int.emod_nonneg _ (by decide), Int.emod_lt_of_pos _ (by decide)⟩, ?_⟩, Int.emod_nonneg _ (by omega), Int.emod_lt_of_pos _ hk, rfl⟩
      show 0 ≤ (if 10 ^ 18 ≤ r.ns.getD r.p.toNat 0 then r.ns.getD r.p.toNat 0 / k else r.c)
      split
      · rename_i hc
        exact Int.ediv_nonneg (Int.le_trans (by decide) hc) (by omega)
      · exact h3
def deRow : List D → Option Rw
  | [.scr ns, .int p, .int m, .int c] => some ⟨ns, p, m, c⟩
  | _ => none
theorem deRow_is {l : List D} {r : Rw} (h : deRow l = some r) : l = r.l := by
  unfold deRow at h
  split at h <;> cases h
  rfl
@[simp] theorem deRow_l (r : Rw) : deRow r.l = some r := rfl
open Classical in
noncomputable def f__law_taken : Fs := fun as => match as with
  | [.own (.lst l), .val (.int k)] => match deRow l with
    | some r => if r.Ok ∧ 0 < k ∧ k ≤ 100000 then .ok (.val (.int (taken r k).1)) [.own (.lst (taken r k).2.l), .val (.int k)] else .stuck
    | none => .stuck
  | _ => .stuck
theorem law_taken_ok {r : Rw} {k : Int} (h : r.Ok) (h1 : 0 < k) (h2 : k ≤ 100000) : f__law_taken [.own (.lst r.l), .val (.int k)] = .ok (.val (.int (taken r k).1)) [.own (.lst (taken r k).2.l), .val (.int k)] := by
  unfold f__law_taken
  simp [h, h1, h2]
noncomputable def gb__law_taken : Rho → Fl :=
  sSeq (sIf (eTest (eBin gtD (eIxO 0 (eC (.int 3))) (eC (.int 0)))) (sSeq (sSet 2 (eBin modD (eCall intD (aCons (eIxO 0 (eC (.int 3))) (aNil))) (eVar 1))) (sSeq (sPutL 0 (eBin fdivD (eIxO 0 (eC (.int 3))) (eVar 1)) (eC (.int 3))) (sRet (eVar 2)))) (sNext)) (sSeq (sPutL 0 (eBin addD (eIxO 0 (eC (.int 1))) (eC (.int 1))) (eC (.int 1))) (sSeq (sIf (eTest (eBin gtD (eIxO 0 (eC (.int 1))) (eCall lenD (aCons (eIxO 0 (eC (.int 0))) (aNil))))) (sSeq (sPutL 0 (eBin modD (eCall intD (aCons (eBin addD (eBin mulD (eIxO 0 (eC (.int 2))) (eC (.int 48271))) (eC (.int 11))) (aNil))) (eC (.int 2147483647))) (eC (.int 2))) (sRet (eBin modD (eCall intD (aCons (eBin fdivD (eIxO 0 (eC (.int 2))) (eC (.int 7))) (aNil))) (eVar 1)))) (sNext)) (sSeq (sSet 3 (eBin ixD (eIxO 0 (eC (.int 0))) (eBin subD (eIxO 0 (eC (.int 1))) (eC (.int 1))))) (sSeq (sPutL 0 (eBin modD (eCall intD (aCons (eBin addD (eBin addD (eBin mulD (eIxO 0 (eC (.int 2))) (eC (.int 48271))) (eVar 3)) (eC (.int 11))) (aNil))) (eC (.int 2147483647))) (eC (.int 2))) (sSeq (sIf (eTest (eBin geD (eVar 3) (eBin powD (eC (.int 10)) (eC (.int 18))))) (sPutL 0 (eBin fdivD (eVar 3) (eVar 1)) (eC (.int 3))) (sNext)) (sRet (eBin modD (eCall intD (aCons (eVar 3) (aNil))) (eVar 1))))))))
theorem eq__law_taken : ∀ as, f__law_taken as ≠ .stuck → Lt.fin as (gb__law_taken (rho0 4 as)) = f__law_taken as := by
  intro as h
  unfold f__law_taken at h ⊢
  split at h
  · rename_i l k
    cases e : deRow l with
    | none => rw [e] at h; exact absurd rfl h
    | some r =>
      rw [e] at h
      have := deRow_is e
      subst this
      dsimp only at h ⊢
      split at h
      · rename_i hz
        rw [if_pos hz]
        obtain ⟨⟨h1, h2, h3⟩, h4, h5⟩ := hz
        obtain ⟨ns, p, m, c⟩ := r
        dsimp only at h1 h2 h3
        have kl := sm_fd (ss_sm (ss_small (i := k) (by omega) (by omega)))
        have ml : m.natAbs.log2 + Nat.log2 48271 < 1000000 := sm_mu (i := m) (j := 48271) (ss_sm (ss_lt (Nat.lt_of_lt_of_le (show m.natAbs < 2147483647 by omega) (by decide)))) (ss_sm (ss_small (by decide) (by decide)))
        have i3 : ixN 4 3 = some 3 := by decide
        have i2 : ixN 4 2 = some 2 := by decide
        have i1 : ixN 4 1 = some 1 := by decide
        have sl : Nat.log2 7 < 9000 := by decide
        unfold gb__law_taken taken
        by_cases c1 : 0 < c
        · simp [rho0, ent, Rw.l, c1, h4, kl, i3, Lt.fin, outs]
        · by_cases c2 : (ns.length : Int) < p + 1
          · simp [rho0, ent, Rw.l, c1, c2, h4, kl, ml, sl, i1, i2, i3, Lt.fin, outs]
          · have g : atI ns p = some (ns.getD p.toNat 0) := by
              rw [atI_nat h1, List.getD_eq_getElem?_getD]
              have : p.toNat < ns.length := by omega
              rw [List.getElem?_eq_getElem this]
              rfl
            generalize ns.getD p.toNat 0 = z at *
            by_cases c3 : (1000000000000000000 : Int) ≤ z
            · simp [rho0, ent, Rw.l, c1, c2, c3, h4, kl, ml, g, i1, i2, i3, Lt.fin, outs]
            · simp [rho0, ent, Rw.l, c1, c2, c3, h4, kl, ml, g, i1, i2, i3, Lt.fin, outs]
      · exact absurd rfl h
  · exact absurd rfl h
end Lt

/-! # Drawn plans -/
namespace Lt
open PySem PySem.Spec L2
/-- up to so many of some places -/
def someGo (most : Int) : List Int → List Int × Rw → List Int × Rw
  | [], s => s
  | p :: ps, (found, r) => someGo most ps (if (found.length : Int) < most then if (taken r 3).1 = 0 then (found ++ [p], (taken r 3).2) else (found, (taken r 3).2) else (found, r))
theorem someGo_app (most : Int) : ∀ (a b : List Int) (s : List Int × Rw), someGo most (a ++ b) s = someGo most b (someGo most a s)
  | [], b, s => rfl
  | p :: a, b, (f, r) => by rw [List.cons_append, someGo, someGo_app most a b, someGo]
theorem someGo_ok {most : Int} (hm : 0 ≤ most) : ∀ (ps : List Int) (f : List Int) (r : Rw), r.Ok → (f.length : Int) ≤ most → (someGo most ps (f, r)).2.Ok ∧ (someGo most ps (f, r)).2.ns = r.ns ∧ ((someGo most ps (f, r)).1.length : Int) ≤ most ∧ ∃ g, (someGo most ps (f, r)).1 = f ++ g ∧ g.Sublist ps
  | [], f, r, h, hl => ⟨h, rfl, hl, [], by simp [someGo], List.Sublist.slnil⟩
  | p :: ps, f, r, h, hl => by
    have tk := taken_ok h (k := 3) (by decide)
    unfold someGo
    by_cases c : (f.length : Int) < most
    · rw [if_pos c]
      by_cases c2 : (taken r 3).1 = 0
      · rw [if_pos c2]
        obtain ⟨q1, q2, q3, g, q4, q5⟩ := someGo_ok hm ps (f ++ [p]) (taken r 3).2 tk.1 (by rw [List.length_append, List.length_singleton]; omega)
        exact ⟨q1, q2.trans tk.2.2.2, q3, p :: g, by rw [q4]; simp, q5.cons_cons p⟩
      · rw [if_neg c2]
        obtain ⟨q1, q2, q3, g, q4, q5⟩ := someGo_ok hm ps f (taken r 3).2 tk.1 hl
        exact ⟨q1, q2.trans tk.2.2.2, q3, g, q4, q5.cons p⟩
    · rw [if_neg c]
      obtain ⟨q1, q2, q3, g, q4, q5⟩ := someGo_ok hm ps f r h hl
      exact ⟨q1, q2, q3, g, q4, q5.cons p⟩
def someR (r : Rw) (ps : List Int) (most : Int) : List Int × Rw := someGo most ps ([], r)
open Classical in
noncomputable def f__law_some : Fs := fun as => match as with
  | [.own (.lst l), .val (.lst ps), .val (.int k)] => match deRow l, asInts ps with
    | some r, some ps => if r.Ok ∧ 0 ≤ k ∧ k ≤ 1000 then .ok (.val (.tup ((someR r ps k).1.map .int))) [.own (.lst (someR r ps k).2.l), .val (.lst (ps.map .int)), .val (.int k)] else .stuck
    | _, _ => .stuck
  | _ => .stuck
theorem law_some_ok {r : Rw} {ps : List Int} {k : Int} (h : r.Ok) (h1 : 0 ≤ k) (h2 : k ≤ 1000) : f__law_some [.own (.lst r.l), .val (.lst (ps.map .int)), .val (.int k)] = .ok (.val (.tup ((someR r ps k).1.map .int))) [.own (.lst (someR r ps k).2.l), .val (.lst (ps.map .int)), .val (.int k)] := by
  unfold f__law_some
  simp [h, h1, h2, asInts_map]
noncomputable def gb__law_some : Rho → Fl :=
  sSeq (sSetO 3 (oLst (aNil))) (sSeq (sFor (iSeq (eVar 1)) (gSet 4) (sIf (bAnd (eTest (eBin ltD (eLenO 3) (eVar 2))) (eTest (eBin eqD (eFnO f__law_taken (arSlot 0 (arVal (eC (.int 3)) (arNil)))) (eC (.int 0))))) (sAppend 3 (eVar 4)) (sNext))) ((fun ρ => (sRet (eCall tupleD (aCons (eVar 3) (aNil)))) (frzS 3 ρ))))
theorem size_lt {n : Nat} (h : n < 16777216) : n < sizeLine := by rw [sizeLine_eq]; exact h
theorem eq__law_some : ∀ as, f__law_some as ≠ .stuck → Lt.fin as (gb__law_some (rho0 5 as)) = f__law_some as := by
  intro as h
  unfold f__law_some at h ⊢
  split at h
  · rename_i l ps k
    cases e : deRow l with
    | none => rw [e] at h; exact absurd rfl h
    | some r =>
      have := deRow_is e
      subst this
      cases e2 : asInts ps with
      | none => rw [e2] at h; simp at h
      | some ps =>
        have := asInts_is e2
        subst this
        simp only [deRow_l, e2] at h ⊢
        split at h
        · rename_i hz
          rw [if_pos hz]
          obtain ⟨h1, h4, h5⟩ := hz
          obtain ⟨ρ', w1, s, w2⟩ := for_inv (gt := gSet 4) (body := (sIf (bAnd (eTest (eBin ltD (eLenO 3) (eVar 2))) (eTest (eBin eqD (eFnO f__law_taken (arSlot 0 (arVal (eC (.int 3)) (arNil)))) (eC (.int 0))))) (sAppend 3 (eVar 4)) (sNext))) D.int
            (fun done ρ => ∃ s, ρ = [.own (some 0) (.lst (someR r done k).2.l), .val (.lst (ps.map .int)), .val (.int k), .own none (.lst ((someR r done k).1.map .int)), s]) ps (ρ := [.own (some 0) (.lst r.l), .val (.lst (ps.map .int)), .val (.int k), .own none (.lst []), .no]) ⟨_, rfl⟩ (by
              rintro done a rest ρ eL ⟨s, rfl⟩
              obtain ⟨q1, q2, q3, _⟩ := someGo_ok h4 done [] r h1 (by simpa using h4)
              change (someR r done k).2.Ok at q1
              change (((someR r done k).1.length : Int) ≤ k) at q3
              have st : someR r (done ++ [a]) k = (if ((someR r done k).1.length : Int) < k then if (taken (someR r done k).2 3).1 = 0 then ((someR r done k).1 ++ [a], (taken (someR r done k).2 3).2) else ((someR r done k).1, (taken (someR r done k).2 3).2) else someR r done k) := by
                unfold someR
                rw [someGo_app]
                generalize someGo k done ([], r) = t
                obtain ⟨f, r'⟩ := t
                rfl
              refine ⟨_, [.own (some 0) (.lst (someR r (done ++ [a]) k).2.l), .val (.lst (ps.map .int)), .val (.int k), .own none (.lst ((someR r (done ++ [a]) k).1.map .int)), .val (.int a)], rfl, ?_, _, rfl⟩
              rw [st]
              generalize someR r done k = t at *
              obtain ⟨f, r'⟩ := t
              dsimp only at q1 q3 ⊢
              have tk := law_taken_ok q1 (k := 3) (by decide) (by decide)
              have sz : f.length < sizeLine := size_lt (by omega)
              by_cases c : (f.length : Int) < k
              · by_cases c2 : (taken r' 3).1 = 0
                · rw [c2] at tk
                  simp [c, c2, tk, rd_eq, sz]
                · simp [c, c2, tk, rd_eq]
              · simp [c])
          subst w2
          unfold gb__law_some
          simp [rho0, ent, w1, Lt.fin, outs]
        · exact absurd rfl h
  · exact absurd rfl h
end Lt

/-! # Drawn plans, continued -/
namespace Lt
open PySem PySem.Spec L2
def kF : Key := .inr (PySem.Str.ofString "front")
def kB : Key := .inr (PySem.Str.ofString "back")
def kR : Key := .inr (PySem.Str.ofString "rule")
def dRec (f b : List Int) (x : Str) : List (Key × D) := [(kF, .tup (f.map .int)), (kB, .tup (b.map .int)), (kR, .str x)]
def ruleAt (t : Int) : Str := if t = 0 then sAny else if t = 1 then sLow else sAsks
theorem ruleAt_ok (t : Int) : isRule (ruleAt t) = true := by
  unfold ruleAt
  split
  · decide +kernel
  · split <;> decide +kernel
structure Dr where
  f : List Int
  b : List Int
  x : Str
  r : Rw
def drawnR (r : Rw) : Dr :=
  let s1 := someR r [1, 2, 3, 4, 5] 3
  let s2 := someR s1.2 [1, 2, 3, 4] 2
  let t := taken s2.2 3
  if s1.1 = [] ∧ s2.1 = [] then ⟨[1 + (taken t.2 5).1], [], ruleAt t.1, (taken t.2 5).2⟩ else ⟨s1.1, s2.1, ruleAt t.1, t.2⟩
theorem someR_ok {r : Rw} {ps : List Int} {k : Int} (h : r.Ok) (hk : 0 ≤ k) : (someR r ps k).2.Ok ∧ (someR r ps k).2.ns = r.ns ∧ ((someR r ps k).1.length : Int) ≤ k ∧ (someR r ps k).1.Sublist ps := by
  obtain ⟨h1, h2, h3, g, h4, h5⟩ := someGo_ok hk ps [] r h (by simpa using hk)
  exact ⟨h1, h2, h3, by unfold someR; rw [h4]; simpa using h5⟩
theorem asc_sub : ∀ {xs ys : List Int}, xs.Sublist ys → ys.Pairwise (· < ·) → asc xs = true := by
  intro xs ys h q
  have p := q.sublist h
  clear h q
  induction xs with
  | nil => rfl
  | cons a xs ih =>
    cases xs with
    | nil => rfl
    | cons b xs =>
      rw [List.pairwise_cons] at p
      have := ih p.2
      unfold asc at this ⊢
      simp only [List.tail_cons, List.zip_cons_cons, List.all_cons, Bool.and_eq_true] at this ⊢
      exact ⟨decide_eq_true (p.1 b List.mem_cons_self), by simpa using this⟩
theorem okF_sub {f : List Int} (h : f.Sublist [1, 2, 3, 4, 5]) (hl : (f.length : Int) ≤ 3) : okF f = true := by
  unfold okF
  rw [placesB_ints, decide_eq_true hl, asc_sub h (by decide), Bool.and_true, Bool.true_and]
  refine List.all_eq_true.mpr fun v hv => ?_
  have := h.subset hv
  have e : v = 1 ∨ v = 2 ∨ v = 3 ∨ v = 4 ∨ v = 5 := by simpa using this
  rcases e with rfl | rfl | rfl | rfl | rfl <;> decide
theorem okB_sub {f : List Int} (h : f.Sublist [1, 2, 3, 4]) (hl : (f.length : Int) ≤ 2) : okB f = true := by
  unfold okB
  rw [placesB_ints, decide_eq_true hl, asc_sub h (by decide), Bool.and_true, Bool.true_and]
  refine List.all_eq_true.mpr fun v hv => ?_
  have := h.subset hv
  have e : v = 1 ∨ v = 2 ∨ v = 3 ∨ v = 4 := by simpa using this
  rcases e with rfl | rfl | rfl | rfl <;> decide
/-- what is drawn is a plan with somebody who has lost the ticket -/
structure Dr.Ok (d : Dr) : Prop where
  p : okP3 d.f d.b d.x
  ne : ¬ (d.f = [] ∧ d.b = [])
  r : d.r.Ok
theorem drawn_ok {r : Rw} (h : r.Ok) : (drawnR r).Ok ∧ (drawnR r).r.ns = r.ns := by
  obtain ⟨h1, h2, h3, h4⟩ := someR_ok (ps := [1, 2, 3, 4, 5]) (k := 3) h (by decide)
  obtain ⟨g1, g2, g3, g4⟩ := someR_ok (ps := [1, 2, 3, 4]) (k := 2) h1 (by decide)
  obtain ⟨t1, t2, t3, t4⟩ := taken_ok g1 (k := 3) (by decide)
  obtain ⟨u1, u2, u3, u4⟩ := taken_ok t1 (k := 5) (by decide)
  unfold drawnR
  dsimp only
  generalize someR r [1, 2, 3, 4, 5] 3 = s1 at *
  generalize someR s1.2 [1, 2, 3, 4] 2 = s2 at *
  generalize taken s2.2 3 = t at *
  generalize taken t.2 5 = u at *
  by_cases c : s1.1 = [] ∧ s2.1 = []
  · rw [if_pos c]
    refine ⟨⟨⟨?_, show okB [] = true by decide, ruleAt_ok _⟩, by simp, u1⟩, by show u.2.ns = r.ns; rw [u4, t4, g2, h2]⟩
    show okF [1 + u.1] = true
    generalize u.1 = v at *
    have e : v = 0 ∨ v = 1 ∨ v = 2 ∨ v = 3 ∨ v = 4 := by omega
    rcases e with rfl | rfl | rfl | rfl | rfl <;> decide
  · rw [if_neg c]
    exact ⟨⟨⟨okF_sub h4 h3, okB_sub g4 g3, ruleAt_ok _⟩, c, t1⟩, by show t.2.ns = r.ns; rw [t4, g2, h2]⟩
open Classical in
noncomputable def f__law_drawn : Fs := fun as => match as with
  | [.own (.lst l)] => match deRow l with
    | some r => if r.Ok then .ok (.own (.dk (dRec (drawnR r).f (drawnR r).b (drawnR r).x))) [.own (.lst (drawnR r).r.l)] else .stuck
    | none => .stuck
  | _ => .stuck
theorem law_drawn_ok {r : Rw} (h : r.Ok) : f__law_drawn [.own (.lst r.l)] = .ok (.own (.dk (dRec (drawnR r).f (drawnR r).b (drawnR r).x))) [.own (.lst (drawnR r).r.l)] := by
  unfold f__law_drawn
  simp [h]
noncomputable def gb__law_drawn : Rho → Fl :=
  sSeq (sSetO 1 (oDict (pCons (eC (.str (PySem.Str.ofString "front"))) (eFnO f__law_some (arSlot 0 (arVal (eLst (aCons (eC (.int 1)) (aCons (eC (.int 2)) (aCons (eC (.int 3)) (aCons (eC (.int 4)) (aCons (eC (.int 5)) (aNil))))))) (arVal (eC (.int 3)) (arNil))))) (pCons (eC (.str (PySem.Str.ofString "back"))) (eFnO f__law_some (arSlot 0 (arVal (eLst (aCons (eC (.int 1)) (aCons (eC (.int 2)) (aCons (eC (.int 3)) (aCons (eC (.int 4)) (aNil)))))) (arVal (eC (.int 2)) (arNil))))) (pNil))))) (sSeq (sDput 1 (eBin ixD (eLst (aCons (eC (.str (PySem.Str.ofString "any"))) (aCons (eC (.str (PySem.Str.ofString "low"))) (aCons (eC (.str (PySem.Str.ofString "asks"))) (aNil))))) (eFnO f__law_taken (arSlot 0 (arVal (eC (.int 3)) (arNil))))) (eC (.str (PySem.Str.ofString "rule")))) (sSeq (sIf (bAnd (eTest (eBin eqD (eDget 1 (eC (.str (PySem.Str.ofString "front")))) (eTup (aNil)))) (eTest (eBin eqD (eDget 1 (eC (.str (PySem.Str.ofString "back")))) (eTup (aNil))))) (sDput 1 (eTup (aCons (eBin addD (eC (.int 1)) (eFnO f__law_taken (arSlot 0 (arVal (eC (.int 5)) (arNil))))) (aNil))) (eC (.str (PySem.Str.ofString "front")))) (sNext)) (sRetO 1)))
theorem nFB : ¬ (PySem.Str.ofString "front" = PySem.Str.ofString "back") := by decide +kernel
theorem nFR : ¬ (PySem.Str.ofString "front" = PySem.Str.ofString "rule") := by decide +kernel
theorem nBR : ¬ (PySem.Str.ofString "back" = PySem.Str.ofString "rule") := by decide +kernel
theorem nBF : ¬ (PySem.Str.ofString "back" = PySem.Str.ofString "front") := by decide +kernel
theorem nRF : ¬ (PySem.Str.ofString "rule" = PySem.Str.ofString "front") := by decide +kernel
theorem nRB : ¬ (PySem.Str.ofString "rule" = PySem.Str.ofString "back") := by decide +kernel
theorem shp_ints (ns : List Int) : (ns.map D.int).all (shp 0) = true := by rw [List.all_map]; simp [Function.comp_def, shp]
theorem okP_ints (ns : List Int) : okP (.tup (ns.map D.int)) = true := okP_tup (n := 0) (shp_ints ns) (by decide)
theorem okP_intsL (ns : List Int) : okP (.lst (ns.map D.int)) = true := okP_lst (n := 0) (shp_ints ns) (by decide)
theorem eqB_intsL (ns ms : List Int) : eqB (.lst (ns.map .int)) (.lst (ms.map .int)) = decide (ns = ms) := eqB_map D.int (fun a b => eqB_int a b) ns ms
theorem eq_ints (ns ms : List Int) : eqD (.tup (ns.map .int)) (.tup (ms.map .int)) = some (.bl (decide (ns = ms))) := by
  rw [rd_eq (okP_ints ns) (okP_ints ms), eqB_tup, eqB_intsL]
theorem eq__law_drawn : ∀ as, f__law_drawn as ≠ .stuck → Lt.fin as (gb__law_drawn (rho0 2 as)) = f__law_drawn as := by
  intro as h
  unfold f__law_drawn at h ⊢
  split at h
  · rename_i l
    cases e : deRow l with
    | none => rw [e] at h; exact absurd rfl h
    | some r =>
      have := deRow_is e
      subst this
      simp only [deRow_l] at h ⊢
      split at h
      · rename_i hz
        rw [if_pos hz]
        clear h e
        obtain ⟨h1, h2, h3, h4⟩ := someR_ok (ps := [1, 2, 3, 4, 5]) (k := 3) hz (by decide)
        obtain ⟨g1, g2, g3, g4⟩ := someR_ok (ps := [1, 2, 3, 4]) (k := 2) h1 (by decide)
        obtain ⟨t1, t2, t3, t4⟩ := taken_ok g1 (k := 3) (by decide)
        have a1 := law_some_ok (ps := [1, 2, 3, 4, 5]) (k := 3) hz (by decide) (by decide)
        have a2 := law_some_ok (ps := [1, 2, 3, 4]) (k := 2) h1 (by decide) (by decide)
        have a3 := law_taken_ok g1 (k := 3) (by decide) (by decide)
        have a4 := law_taken_ok t1 (k := 5) (by decide) (by decide)
        unfold drawnR
        dsimp only
        generalize someR r [1, 2, 3, 4, 5] 3 = s1 at *
        generalize someR s1.2 [1, 2, 3, 4] 2 = s2 at *
        generalize taken s2.2 3 = t at *
        generalize taken t.2 5 = u at *
        simp only [List.map_cons, List.map_nil] at a1 a2
        have at_ : atI [D.str (PySem.Str.ofString "any"), D.str (PySem.Str.ofString "low"), D.str (PySem.Str.ofString "asks")] t.1 = some (.str (ruleAt t.1)) := by
          have e : t.1 = 0 ∨ t.1 = 1 ∨ t.1 = 2 := by omega
          rcases e with e | e | e <;> rw [e] <;> simp [ruleAt, sAny, sLow, sAsks]
        have e1 := eq_ints s1.1 []
        have e2 := eq_ints s2.1 []
        simp only [List.map_nil] at e1 e2
        unfold gb__law_drawn
        by_cases c1 : s1.1 = []
        · by_cases c2 : s2.1 = []
          · rw [decide_eq_true c1] at e1
            rw [decide_eq_true c2] at e2
            rw [if_pos ⟨c1, c2⟩]
            simp [rho0, ent, a1, a2, a3, a4, at_, e1, e2, mergeD, putD, valD, nFB, nFR, nBR, nBF, nRF, nRB, Lt.fin, outs, dRec, kF, kB, kR]
            exact c2
          · rw [decide_eq_true c1] at e1
            rw [decide_eq_false c2] at e2
            rw [if_neg (fun z => c2 z.2)]
            simp [rho0, ent, a1, a2, a3, a4, at_, e1, e2, mergeD, putD, valD, nFB, nFR, nBR, nBF, nRF, nRB, Lt.fin, outs, dRec, kF, kB, kR]
        · rw [decide_eq_false c1] at e1
          rw [if_neg (fun z => c1 z.1)]
          simp [rho0, ent, a1, a2, a3, a4, at_, e1, e2, mergeD, putD, valD, nFB, nFR, nBR, nBF, nRF, nRB, Lt.fin, outs, dRec, kF, kB, kR]
      · exact absurd rfl h
  · exact absurd rfl h
end Lt

/-! # Drawn plans with any parts: the plan, or the error -/
namespace Lt
open PySem PySem.Spec L2
def dRecD (f b r : D) : List (Key × D) := [(kF, f), (kB, b), (kR, r)]
theorem dRec_D (f b : List Int) (x : Str) : dRec f b x = dRecD (.tup (f.map .int)) (.tup (b.map .int)) (.str x) := rfl
def deRecD : List (Key × D) → Option (D × D × D)
  | [(k1, f), (k2, b), (k3, r)] => if k1 = kF ∧ k2 = kB ∧ k3 = kR then some (f, b, r) else none
  | _ => none
@[simp] theorem deRecD_d (f b r : D) : deRecD (dRecD f b r) = some (f, b, r) := by simp [deRecD, dRecD]
theorem deRecD_is {l : List (Key × D)} {f b r : D} (h : deRecD l = some (f, b, r)) : l = dRecD f b r := by
  unfold deRecD at h
  split at h
  · split at h
    · rename_i hz
      cases h
      rw [hz.1, hz.2.1, hz.2.2]
      rfl
    · cases h
  · cases h
@[simp] theorem val_frontD (f b r : D) : valD (dRecD f b r) (.inr (PySem.Str.ofString "front")) = some f := by simp [valD, dRecD, kF]
@[simp] theorem val_backD (f b r : D) : valD (dRecD f b r) (.inr (PySem.Str.ofString "back")) = some b := by simp [valD, dRecD, kF, kB, nFB]
@[simp] theorem val_ruleD (f b r : D) : valD (dRecD f b r) (.inr (PySem.Str.ofString "rule")) = some r := by simp [valD, dRecD, kF, kB, kR, nFR, nBR]
@[simp] theorem put_frontD (f b r g : D) : putD (dRecD f b r) (.inr (PySem.Str.ofString "front")) g = dRecD g b r := by simp [putD, dRecD, kF, kB, kR, nBF, nRF]
@[simp] theorem put_backD (f b r g : D) : putD (dRecD f b r) (.inr (PySem.Str.ofString "back")) g = dRecD f g r := by simp [putD, dRecD, kF, kB, kR, nFB, nRB]
@[simp] theorem put_ruleD (f b r g : D) : putD (dRecD f b r) (.inr (PySem.Str.ofString "rule")) g = dRecD f b g := by simp [putD, dRecD, kF, kB, kR, nFR, nBR]
def okD3 (f b r : D) : Prop := okPl f = true ∧ okPl b = true ∧ tyd r = true
def wrongN (f b r : D) : Nat := if placesB 3 5 f = false then 1 else if placesB 2 4 b = false then 2 else if ruleB r = false then 3 else 0
def wrongS : Nat → D
  | 0 => .non
  | 1 => .str (PySem.Str.ofString "front")
  | 2 => .str (PySem.Str.ofString "back")
  | _ => .str (PySem.Str.ofString "rule")
theorem placesB_is {m l : Int} {d : D} (h : placesB m l d = true) : ∃ ns : List Int, d = .tup (ns.map .int) ∧ placesB m l (.tup (ns.map .int)) = true := by
  cases d <;> try (simp [placesB] at h; done)
  rename_i ds
  cases e : asInts ds with
  | none => simp [placesB, e] at h
  | some ns =>
    have := asInts_is e
    subst this
    exact ⟨ns, rfl, h⟩
theorem right_of {f b r : D} (h : wrongN f b r = 0) : ∃ f' b' x, f = .tup (f'.map .int) ∧ b = .tup (b'.map .int) ∧ r = .str x ∧ okP3 f' b' x := by
  unfold wrongN at h
  split at h
  · cases h
  · split at h
    · cases h
    · split at h
      · cases h
      · rename_i h1 h2 h3
        obtain ⟨f', rfl, g1⟩ := placesB_is (by simpa using h1)
        obtain ⟨b', rfl, g2⟩ := placesB_is (by simpa using h2)
        cases r <;> try (simp [ruleB] at h3; done)
        rename_i x
        exact ⟨f', b', x, rfl, rfl, rfl, ⟨g1, g2, by simpa [ruleB] using h3⟩⟩
theorem wrong_right {f b : List Int} {x : Str} (h : okP3 f b x) : wrongN (.tup (f.map .int)) (.tup (b.map .int)) (.str x) = 0 := by
  have h1 : placesB 3 5 (.tup (f.map .int)) = true := h.f
  have h2 : placesB 2 4 (.tup (b.map .int)) = true := h.b
  have h3 : ruleB (.str x) = true := h.x
  unfold wrongN
  simp [h1, h2, h3]
theorem okD3_right {f b : List Int} {x : Str} (h : okP3 f b x) : okD3 (.tup (f.map .int)) (.tup (b.map .int)) (.str x) := ⟨okPl_ints (by have := okF_len h.f; omega), okPl_ints (by have := okB_len h.b; omega), rfl⟩
theorem Plan_ok {A : Ads} {f b : List Int} {x : Str} (h : okP3 f b x) : f_Plan A [.own (.ins A.CPlan []), .val (.tup (f.map .int)), .val (.tup (b.map .int)), .val (.str x)] = .ok (.val .non) [.own (oPlan A f b x), .val (.tup (f.map .int)), .val (.tup (b.map .int)), .val (.str x)] := by
  unfold f_Plan selfArgs
  simp [rightPlan, asInts_map, h.f, h.b, h.x]
def errOf (A : Ads) : Nat → Addr
  | 1 => A.CInvalidFront
  | 2 => A.CInvalidBack
  | _ => A.CInvalidRule
open Classical in
noncomputable def f_Plan2 (A : Ads) : Fs := fun as => match selfArgs A as with
  | some (f, b, r) => if okD3 f b r then
      if wrongN f b r = 0 then f_Plan A as else .exc (errOf A (wrongN f b r)) [] [] [.own (.ins A.CPlan []), .val f, .val b, .val r]
      else .stuck
  | none => .stuck
theorem Plan2_ok {A : Ads} {f b : List Int} {x : Str} (h : okP3 f b x) : f_Plan2 A [.own (.ins A.CPlan []), .val (.tup (f.map .int)), .val (.tup (b.map .int)), .val (.str x)] = .ok (.val .non) [.own (oPlan A f b x), .val (.tup (f.map .int)), .val (.tup (b.map .int)), .val (.str x)] := by
  unfold f_Plan2
  simp only [selfArgs, if_true]
  rw [if_pos (okD3_right h), if_pos (wrong_right h), Plan_ok h]
theorem Plan2_bad {A : Ads} {f b r : D} (h : okD3 f b r) (hw : wrongN f b r ≠ 0) : f_Plan2 A [.own (.ins A.CPlan []), .val f, .val b, .val r] = .exc (errOf A (wrongN f b r)) [] [] [.own (.ins A.CPlan []), .val f, .val b, .val r] := by
  unfold f_Plan2
  simp only [selfArgs, if_true]
  rw [if_pos h, if_neg hw]
theorem eq_Plan2 (A : Ads) : ∀ as, f_Plan2 A as ≠ .stuck → Lt.fin as (gb_Plan___init__ A (rho0 4 as)) = f_Plan2 A as := by
  intro as h
  have h0 := h
  unfold f_Plan2 at h ⊢
  cases e : selfArgs A as with
  | none => rw [e] at h; exact absurd rfl h
  | some t =>
    obtain ⟨f, b, r⟩ := t
    rw [e] at h
    dsimp only at h ⊢
    have ea : as = [.own (.ins A.CPlan []), .val f, .val b, .val r] := by
      unfold selfArgs at e
      split at e
      · split at e
        · rename_i hC
          cases e
          rw [hC]
        · cases e
      · cases e
    split at h
    · rename_i hz
      rw [if_pos hz]
      split at h
      · rename_i hw
        rw [if_pos hw]
        exact eq_Plan A as h
      · rename_i hw
        rw [if_neg hw]
        clear h h0 e
        subst ea
        obtain ⟨z1, z2, z3⟩ := hz
        have p1 : f_are_places [f, .int 3, .int 5] = .ok (.val (.bl (placesB 3 5 f))) := by
          unfold f_are_places P3
          dsimp only
          rw [if_pos z1]
        have p2 : f_are_places [b, .int 2, .int 4] = .ok (.val (.bl (placesB 2 4 b))) := by
          unfold f_are_places P3
          dsimp only
          rw [if_pos z2]
        have p3 : f_is_rule [r] = .ok (.val (.bl (ruleB r))) := by
          unfold f_is_rule P1
          dsimp only
          rw [if_pos z3]
        unfold gb_Plan___init__
        unfold wrongN at hw ⊢
        cases w1 : placesB 3 5 f with
        | false =>
          rw [w1] at p1
          simp [rho0, ent, p1, Lt.fin, outs, errOf]
        | true =>
          rw [w1] at p1
          cases w2 : placesB 2 4 b with
          | false =>
            rw [w2] at p2
            simp [rho0, ent, p1, p2, Lt.fin, outs, errOf]
          | true =>
            rw [w2] at p2
            cases w3 : ruleB r with
            | false =>
              rw [w3] at p3
              simp [rho0, ent, p1, p2, p3, Lt.fin, outs, errOf]
            | true => simp [w1, w2, w3] at hw
    · exact absurd rfl h
theorem len_Plan2 (A : Ads) : ∀ as, f_Plan2 A as ≠ .stuck → as.length = 4 := by
  intro as h
  unfold f_Plan2 at h
  split at h
  · rename_i z
    exact selfArgs_len z
  · exact absurd rfl h
/-! ### the dict's readers -/
def deRec (l : List (Key × D)) : Option (List Int × List Int × Str) := match deRecD l with
  | some (.tup f, .tup b, .str x) => (asInts f).bind fun f => (asInts b).bind fun b => some (f, b, x)
  | _ => none
@[simp] theorem deRec_dRec (f b : List Int) (x : Str) : deRec (dRec f b x) = some (f, b, x) := by
  rw [dRec_D]
  unfold deRec
  rw [deRecD_d]
  simp [asInts_map]
theorem deRec_is {l : List (Key × D)} {f b : List Int} {x : Str} (h : deRec l = some (f, b, x)) : l = dRec f b x := by
  unfold deRec at h
  split at h
  · rename_i f0 b0 x0 e
    obtain ⟨f', h1, g1⟩ := Option.bind_eq_some_iff.mp h
    obtain ⟨b', h2, g2⟩ := Option.bind_eq_some_iff.mp g1
    cases g2
    have := deRecD_is e
    rw [this, asInts_is h1, asInts_is h2]
    rfl
  · cases h
noncomputable def f__law_least : Fs := fun as => match as with
  | [.own (.dk l)] => match deRec l with
    | some (f, b, x) => .ok (.val (.int (least f b))) [.own (.dk l)]
    | none => .stuck
  | _ => .stuck
theorem law_least_ok (f b : List Int) (x : Str) : f__law_least [.own (.dk (dRec f b x))] = .ok (.val (.int (least f b))) [.own (.dk (dRec f b x))] := by
  unfold f__law_least
  simp
noncomputable def gb__law_least : Rho → Fl :=
  sRet (eCall max2D (aCons (eC (.int 1)) (aCons (eBin addD (eCall sumA (aCons (eSlice (eDget 0 (eC (.str (PySem.Str.ofString "front")))) (oSome (eUn negD (eC (.int 1)))) (oNone)) (aNil))) (eCall sumA (aCons (eSlice (eDget 0 (eC (.str (PySem.Str.ofString "back")))) (oSome (eUn negD (eC (.int 1)))) (oNone)) (aNil)))) (aNil))))
theorem max2_least (f b : List Int) : max2D [.int 1, .int (last0 f + last0 b)] = some (.int (least f b)) := by
  rw [rd_max2]
  unfold least
  congr 2
  split <;> omega
theorem eq__law_least : ∀ as, f__law_least as ≠ .stuck → Lt.fin as (gb__law_least (rho0 1 as)) = f__law_least as := by
  intro as h
  unfold f__law_least at h ⊢
  split at h
  · rename_i l
    cases e : deRec l with
    | none => rw [e] at h; exact absurd rfl h
    | some t =>
      obtain ⟨f, b, x⟩ := t
      have := deRec_is e
      subst this
      have s1 := sum_last f
      have s2 := sum_last b
      have m1 := max2_least f b
      simp only [rd_sumT] at s1 s2
      simp only [rd_max2] at m1
      simp only [deRec_dRec]
      rw [dRec_D]
      unfold gb__law_least
      simp [rho0, ent, s1, s2, m1, Lt.fin, outs]
  · exact absurd rfl h
open Classical in
noncomputable def f__law_made (A : Ads) : Fs := fun as => match as with
  | [.own (.dk l)] => match deRecD l with
    | some (f, b, r) => if okD3 f b r then
        if wrongN f b r = 0 then match deRec l with
          | some (f, b, x) => .ok (.val (dPlan A f b x)) [.own (.dk l)]
          | none => .stuck
        else .exc (errOf A (wrongN f b r)) [] [] [.own (.dk l)]
      else .stuck
    | none => .stuck
  | _ => .stuck
theorem law_made_ok {A : Ads} {f b : List Int} {x : Str} (h : okP3 f b x) : f__law_made A [.own (.dk (dRec f b x))] = .ok (.val (dPlan A f b x)) [.own (.dk (dRec f b x))] := by
  unfold f__law_made
  dsimp only
  rw [deRec_dRec, dRec_D, deRecD_d]
  dsimp only
  rw [if_pos (okD3_right h), if_pos (wrong_right h)]
theorem law_made_bad {A : Ads} {f b r : D} (h : okD3 f b r) (hw : wrongN f b r ≠ 0) : f__law_made A [.own (.dk (dRecD f b r))] = .exc (errOf A (wrongN f b r)) [] [] [.own (.dk (dRecD f b r))] := by
  unfold f__law_made
  dsimp only
  rw [deRecD_d]
  dsimp only
  rw [if_pos h, if_neg hw]
noncomputable def gb__law_made (A : Ads) : Rho → Fl :=
  sRet (eFrz (oMake (f_Plan2 A) A.CPlan (aCons (eDget 0 (eC (.str (PySem.Str.ofString "front")))) (aCons (eDget 0 (eC (.str (PySem.Str.ofString "back")))) (aCons (eDget 0 (eC (.str (PySem.Str.ofString "rule")))) (aNil))))))
theorem eq__law_made (A : Ads) : ∀ as, f__law_made A as ≠ .stuck → Lt.fin as (gb__law_made A (rho0 1 as)) = f__law_made A as := by
  intro as h
  unfold f__law_made at h ⊢
  split at h
  · rename_i l
    cases e : deRecD l with
    | none => rw [e] at h; exact absurd rfl h
    | some t =>
      obtain ⟨f, b, r⟩ := t
      have := deRecD_is e
      subst this
      simp only [deRecD_d] at h ⊢
      split at h
      · rename_i hz
        rw [if_pos hz]
        split at h
        · rename_i hw
          rw [if_pos hw]
          obtain ⟨f', b', x, rfl, rfl, rfl, ok⟩ := right_of hw
          have p := Plan2_ok (A := A) ok
          rw [← dRec_D, deRec_dRec]
          rw [dRec_D]
          unfold gb__law_made
          simp [rho0, ent, p, frz_oPlan, Lt.fin, outs]
        · rename_i hw
          rw [if_neg hw]
          have p := Plan2_bad (A := A) hz hw
          unfold gb__law_made
          simp [rho0, ent, p, Lt.fin, outs]
      · exact absurd rfl h
  · exact absurd rfl h
end Lt

/-! # The own == of plans; which part is wrong -/
namespace Lt
open PySem PySem.Spec L2
open Classical in
noncomputable def f_planEq (A : Ads) : Fs := fun as => match as with
  | [.val p, .val q] => match dePlan A p, dePlan A q with
    | some (f, b, x), some (f2, b2, x2) => if okP3 f b x ∧ okP3 f2 b2 x2 then .ok (.val (.bl (decide (f = f2) && (decide (b = b2) && decide (x = x2))))) [.val p, .val q] else .stuck
    | _, _ => .stuck
  | [.val p, .own (.dk l)] => match dePlan A p with
    | some (f, b, x) => .ok (.val (.bl false)) [.val p, .own (.dk l)]
    | none => .stuck
  | _ => .stuck
theorem planEq_ok {A : Ads} {f b f2 b2 : List Int} {x x2 : Str} (h : okP3 f b x) (h2 : okP3 f2 b2 x2) : f_planEq A [.val (dPlan A f b x), .val (dPlan A f2 b2 x2)] = .ok (.val (.bl (decide (f = f2) && (decide (b = b2) && decide (x = x2))))) [.val (dPlan A f b x), .val (dPlan A f2 b2 x2)] := by
  unfold f_planEq
  simp only [dePlan_dPlan]
  rw [if_pos ⟨h, h2⟩]
theorem planEq_dk {A : Ads} {f b : List Int} {x : Str} {l : List (Key × D)} : f_planEq A [.val (dPlan A f b x), .own (.dk l)] = .ok (.val (.bl false)) [.val (dPlan A f b x), .own (.dk l)] := by
  unfold f_planEq
  simp only [dePlan_dPlan]
noncomputable def gb_Plan___eq__ (A : Ads) : Rho → Fl :=
  sSeq (sIf (bNot (eTest (eIsC A.CPlan 1))) (sRet (eC (.bl false))) (sNext)) (sRet (eAnd (eBin eqD (eUn (fldD A.CPlan "fore") (eVar 0)) (eUn (fldD A.CPlan "fore") (eVar 1))) (eAnd (eBin eqD (eUn (fldD A.CPlan "rear") (eVar 0)) (eUn (fldD A.CPlan "rear") (eVar 1))) (eBin eqD (eUn (fldD A.CPlan "way") (eVar 0)) (eUn (fldD A.CPlan "way") (eVar 1))))))
theorem eq_planEq (A : Ads) : ∀ as, f_planEq A as ≠ .stuck → Lt.fin as (gb_Plan___eq__ A (rho0 2 as)) = f_planEq A as := by
  intro as h
  unfold f_planEq at h ⊢
  split at h
  · rename_i p q
    split at h
    · rename_i f b x f2 b2 x2 hp hq
      have ep := dePlan_is hp
      have eq := dePlan_is hq
      subst ep
      subst eq
      split at h
      · rename_i hz
        rw [if_pos hz]
        have i1 : eIsC A.CPlan 1 [.val (dPlan A f b x), .val (dPlan A f2 b2 x2)] = .ok (.bl true) [.val (dPlan A f b x), .val (dPlan A f2 b2 x2)] := by unfold eIsC dPlan; simp
        have e1 := eq_ints f f2
        have e2 := eq_ints b b2
        have e3 := eq_str (strOk_rule hz.1.x) (strOk_rule hz.2.x)
        unfold gb_Plan___eq__
        by_cases c1 : f = f2
        · rw [decide_eq_true c1] at e1
          by_cases c2 : b = b2
          · rw [decide_eq_true c2] at e2
            rw [decide_eq_true c1, decide_eq_true c2]
            simp [rho0, ent, i1, e1, e2, e3, Lt.fin, outs]
          · rw [decide_eq_false c2] at e2
            rw [decide_eq_true c1, decide_eq_false c2]
            simp [rho0, ent, i1, e1, e2, e3, Lt.fin, outs]
        · rw [decide_eq_false c1] at e1
          rw [decide_eq_false c1]
          simp [rho0, ent, i1, e1, e2, e3, Lt.fin, outs]
      · exact absurd rfl h
    · exact absurd rfl h
  · rename_i p l
    split at h
    · rename_i f b x hp
      have ep := dePlan_is hp
      subst ep
      have i1 : eIsC A.CPlan 1 [.val (dPlan A f b x), .own (some 0) (.dk l)] = .ok (.bl false) [.val (dPlan A f b x), .own (some 0) (.dk l)] := by unfold eIsC; simp
      unfold gb_Plan___eq__
      simp [rho0, ent, i1, Lt.fin, outs]
    · exact absurd rfl h
  · exact absurd rfl h
theorem len_planEq (A : Ads) : ∀ as, f_planEq A as ≠ .stuck → as.length = 2 := by
  intro as h
  unfold f_planEq at h
  split at h
  · rfl
  · rfl
  · exact absurd rfl h
theorem eqsh_Plan (A : Ads) : EqSh A.CPlan (f_planEq A) where
  arg := fun as h => by
    unfold f_planEq at h
    split at h
    · split at h
      · rename_i hp hq
        exact .inl ⟨_, _, _, _, by rw [dePlan_is hp, dePlan_is hq]; rfl⟩
      · exact absurd rfl h
    · split at h
      · rename_i hp
        exact .inr ⟨_, _, _, by rw [dePlan_is hp]; rfl⟩
      · exact absurd rfl h
    · exact absurd rfl h
  res := fun as h => by
    unfold f_planEq at h ⊢
    split at h
    · split at h
      · split at h
        · rename_i hz
          try dsimp only
          exact ⟨_, _, if_pos hz⟩
        · exact absurd rfl h
      · exact absurd rfl h
    · split at h
      · exact ⟨_, _, rfl⟩
      · exact absurd rfl h
    · exact absurd rfl h
end Lt

/-! # LineReader -/
namespace Lt
open PySem PySem.Spec L2
def lrF (l : Int) (ws : List Str) (k : Nat) : List (Str × D) := [(PySem.Str.ofString "line", .int l), (PySem.Str.ofString "row", .lst (ws.map .str)), (PySem.Str.ofString "spot", .int (k : Int))]
def deLR (A : Ads) : O → Option (Int × List Str × Nat)
  | .ins C [(n1, .int l), (n2, .lst ds), (n3, .int k)] => if C = A.CLineReader ∧ n1 = PySem.Str.ofString "line" ∧ n2 = PySem.Str.ofString "row" ∧ n3 = PySem.Str.ofString "spot" ∧ 0 ≤ k then (asStrs ds).map fun ws => (l, ws, k.toNat) else none
  | _ => none
def lrO (A : Ads) (l : Int) (ws : List Str) (k : Nat) : O := .ins A.CLineReader (lrF l ws k)
@[simp] theorem deLR_lr (A : Ads) (l : Int) (ws : List Str) (k : Nat) : deLR A (lrO A l ws k) = some (l, ws, k) := by
  unfold lrO lrF deLR
  dsimp only
  rw [if_pos ⟨rfl, rfl, rfl, rfl, by omega⟩, asStrs_map]
  rfl
theorem deLR_is {A : Ads} {o : O} {l : Int} {ws : List Str} {k : Nat} (h : deLR A o = some (l, ws, k)) : o = lrO A l ws k := by
  unfold deLR at h
  split at h
  · split at h
    · rename_i hz
      obtain ⟨rfl, rfl, rfl, rfl, hk⟩ := hz
      obtain ⟨ws', e1, e2⟩ := Option.map_eq_some_iff.mp h
      cases e2
      rw [asStrs_is e1]
      unfold lrO lrF
      congr 6
      omega
    · cases h
  · cases h
noncomputable def f_LR_init (A : Ads) : Fs := fun as => match as with
  | [.own (.ins C []), .val (.int l), .val (.lst ds)] => if C = A.CLineReader then match asStrs ds with
    | some ws => .ok (.val .non) [.own (lrO A l ws 0), .val (.int l), .val (.lst ds)]
    | none => .stuck
    else .stuck
  | _ => .stuck
theorem lenx_LR_init (A : Ads) : ∀ as, f_LR_init A as ≠ .stuck → as.length = 3 := by
  intro as h
  unfold f_LR_init at h
  split at h
  · rfl
  · exact absurd rfl h
theorem LR_init_ok {A : Ads} {l : Int} {ws : List Str} : f_LR_init A [.own (.ins A.CLineReader []), .val (.int l), .val (.lst (ws.map .str))] = .ok (.val .non) [.own (lrO A l ws 0), .val (.int l), .val (.lst (ws.map .str))] := by
  unfold f_LR_init
  simp [asStrs_map]
noncomputable def gb_LineReader___init__ (A : Ads) : Rho → Fl :=
  sSeq (sFldO 0 A.CLineReader "line" (eVar 1)) (sSeq (sFldO 0 A.CLineReader "row" (eVar 2)) (sFldO 0 A.CLineReader "spot" (eC (.int 0))))
theorem nLR : ¬ (PySem.Str.ofString "line" = PySem.Str.ofString "row") := by decide +kernel
theorem nLS : ¬ (PySem.Str.ofString "line" = PySem.Str.ofString "spot") := by decide +kernel
theorem nRS : ¬ (PySem.Str.ofString "row" = PySem.Str.ofString "spot") := by decide +kernel
theorem eq_LR_init (A : Ads) : ∀ as, f_LR_init A as ≠ .stuck → Lt.fin as (gb_LineReader___init__ A (rho0 3 as)) = f_LR_init A as := by
  intro as h
  unfold f_LR_init at h ⊢
  split at h
  · rename_i C l ds
    split at h
    · rename_i hC
      subst hC
      rw [if_pos rfl]
      cases e : asStrs ds with
      | none => rw [e] at h; exact absurd rfl h
      | some ws =>
        have := asStrs_is e
        subst this
        have n1 := nLR
        have n2 := nLS
        have n3 := nRS
        unfold gb_LineReader___init__
        simp [rho0, ent, rd_fldO, insAt, setO, putFD, n1, n2, n3, Lt.fin, outs, lrO, lrF]
    · exact absurd rfl h
  · exact absurd rfl h
def noText (A : Ads) (l : Int) (k : Nat) (bs : List R) : Res := .exc A.CInvalidText ["word", "line"] [.int ((k : Int) + 1), .int l] bs
noncomputable def f_LR_refuse (A : Ads) : Fs := fun as => match as with
  | [.own o] => match deLR A o with
    | some (l, ws, k) => noText A l k [.own o]
    | none => .stuck
  | _ => .stuck
theorem lenx_LR_refuse (A : Ads) : ∀ as, f_LR_refuse A as ≠ .stuck → as.length = 1 := by
  intro as h
  unfold f_LR_refuse at h
  split at h
  · rfl
  · exact absurd rfl h
theorem LR_refuse_ok {A : Ads} {l : Int} {ws : List Str} {k : Nat} : f_LR_refuse A [.own (lrO A l ws k)] = noText A l k [.own (lrO A l ws k)] := by
  unfold f_LR_refuse
  simp
noncomputable def gb_LineReader_refuse (A : Ads) : Rho → Fl :=
  sRaise A.CInvalidText ["line", "word"] (aCons (eFldO 0 A.CLineReader "line") (aCons (eBin addD (eFldO 0 A.CLineReader "spot") (eC (.int 1))) (aNil)))
theorem fldO_line {i : Nat} {A : Ads} {b : Option Nat} {l : Int} {ws : List Str} {k : Nat} {ρ : Rho} (h : ρ[i]? = some (.own b (lrO A l ws k))) : eFldO i A.CLineReader (PySem.Str.ofString "line") ρ = .ok (.int l) ρ := by
  unfold eFldO insAt
  rw [h]
  simp [lrO, lrF, List.lookup_cons]
theorem fldO_row {i : Nat} {A : Ads} {b : Option Nat} {l : Int} {ws : List Str} {k : Nat} {ρ : Rho} (h : ρ[i]? = some (.own b (lrO A l ws k))) : eFldO i A.CLineReader (PySem.Str.ofString "row") ρ = .ok (.lst (ws.map .str)) ρ := by
  have n : (PySem.Str.ofString "row" == PySem.Str.ofString "line") = false := by decide +kernel
  unfold eFldO insAt
  rw [h]
  simp [lrO, lrF, List.lookup_cons, n]
theorem fldO_spot {i : Nat} {A : Ads} {b : Option Nat} {l : Int} {ws : List Str} {k : Nat} {ρ : Rho} (h : ρ[i]? = some (.own b (lrO A l ws k))) : eFldO i A.CLineReader (PySem.Str.ofString "spot") ρ = .ok (.int (k : Int)) ρ := by
  have n : (PySem.Str.ofString "spot" == PySem.Str.ofString "line") = false := by decide +kernel
  have n2 : (PySem.Str.ofString "spot" == PySem.Str.ofString "row") = false := by decide +kernel
  unfold eFldO insAt
  rw [h]
  simp [lrO, lrF, List.lookup_cons, n, n2]
theorem eq_LR_refuse (A : Ads) : ∀ as, f_LR_refuse A as ≠ .stuck → Lt.fin as (gb_LineReader_refuse A (rho0 1 as)) = f_LR_refuse A as := by
  intro as h
  unfold f_LR_refuse at h ⊢
  split at h
  · rename_i o
    cases e : deLR A o with
    | none => rw [e] at h; exact absurd rfl h
    | some t =>
      obtain ⟨l, ws, k⟩ := t
      have := deLR_is e
      subst this
      have f1 := fldO_line (A := A) (i := 0) (b := some 0) (l := l) (ws := ws) (k := k) (ρ := [.own (some 0) (lrO A l ws k)]) rfl
      have f2 := fldO_spot (A := A) (i := 0) (b := some 0) (l := l) (ws := ws) (k := k) (ρ := [.own (some 0) (lrO A l ws k)]) rfl
      unfold gb_LineReader_refuse noText
      simp [rho0, ent, f1, f2, Lt.fin, outs]
  · exact absurd rfl h
end Lt

/-! # LineReader: one_of, end -/
namespace Lt
open PySem PySem.Spec L2
theorem inStrs (neg : Bool) (w : Str) (xs : List Str) : inB (.str w) (xs.map .str) = decide (w ∈ xs) := by
  induction xs with
  | nil => rfl
  | cons x xs ih =>
    rw [List.map_cons]
    unfold inB at ih ⊢
    rw [List.any_cons, ih, eqB_str]
    by_cases h : x = w
    · subst h; simp
    · have h' : ¬ (w = x) := fun z => h z.symm
      simp [h, h']
theorem inD_strs {w : Str} {xs : List Str} : inD true (.str w) (.lst (xs.map .str)) = some (.bl (!decide (w ∈ xs))) ∧ inD true (.str w) (.tup (xs.map .str)) = some (.bl (!decide (w ∈ xs))) := by
  have fl : (xs.map D.str).all flatD = true := by rw [List.all_map]; simp [Function.comp_def, flatD]
  constructor <;> (unfold inD; dsimp only; rw [if_pos ⟨rfl, fl⟩, inStrs true]; rfl)
def wordsOf : D → Option (List Str)
  | .tup ds => asStrs ds
  | .lst ds => asStrs ds
  | _ => none
theorem inD_words {w : Str} {d : D} {xs : List Str} (h : wordsOf d = some xs) : inD true (.str w) d = some (.bl (!decide (w ∈ xs))) := by
  unfold wordsOf at h
  split at h
  · rw [asStrs_is h]; exact inD_strs.2
  · rw [asStrs_is h]; exact inD_strs.1
  · cases h
open Classical in
noncomputable def f_LR_one_of (A : Ads) : Fs := fun as => match as with
  | [.own o, .val s] => match deLR A o, wordsOf s with
    | some (l, ws, k), some xs => match ws[k]? with
      | some w => if w ∈ xs then .ok (.val (.str w)) [.own (lrO A l ws (k + 1)), .val s] else noText A l k [.own o, .val s]
      | none => if k = ws.length then noText A l k [.own o, .val s] else .stuck
    | _, _ => .stuck
  | _ => .stuck
theorem lenx_LR_one_of (A : Ads) : ∀ as, f_LR_one_of A as ≠ .stuck → as.length = 2 := by
  intro as h
  unfold f_LR_one_of at h
  split at h
  · rfl
  · exact absurd rfl h
noncomputable def gb_LineReader_one_of (A : Ads) : Rho → Fl :=
  sSeq (sIf (bOr (eTest (eBin eqD (eFldO 0 A.CLineReader "spot") (eCall lenD (aCons (eFldO 0 A.CLineReader "row") (aNil))))) (eTest (eBin (inD true) (eBin ixD (eFldO 0 A.CLineReader "row") (eFldO 0 A.CLineReader "spot")) (eVar 1)))) (sExpr (eMeth 0 A.CLineReader "refuse" (f_LR_refuse A) (arNil))) (sNext)) (sSeq (sFldAdd 0 A.CLineReader "spot" (eC (.int 1))) (sRet (eBin ixD (eFldO 0 A.CLineReader "row") (eBin subD (eFldO 0 A.CLineReader "spot") (eC (.int 1))))))
theorem lr_none {l : Int} {ws : List Str} {k : Nat} : ((lrF l ws k).lookup (PySem.Str.ofString "refuse")).isNone = true := by
  have n1 : (PySem.Str.ofString "refuse" == PySem.Str.ofString "line") = false := by decide +kernel
  have n2 : (PySem.Str.ofString "refuse" == PySem.Str.ofString "row") = false := by decide +kernel
  have n3 : (PySem.Str.ofString "refuse" == PySem.Str.ofString "spot") = false := by decide +kernel
  simp [lrF, List.lookup_cons, n1, n2, n3]
theorem refuse_at {A : Ads} {b : Option Nat} {l : Int} {ws : List Str} {k : Nat} {r : Rho} : eMeth 0 A.CLineReader (PySem.Str.ofString "refuse") (f_LR_refuse A) arNil (.own b (lrO A l ws k) :: r) = .exc A.CInvalidText ["word", "line"] [.int ((k : Int) + 1), .int l] (.own b (lrO A l ws k) :: r) := by
  have q := LR_refuse_ok (A := A) (l := l) (ws := ws) (k := k)
  have n := lr_none (l := l) (ws := ws) (k := k)
  unfold noText at q
  have i : insAt 0 A.CLineReader (.own b (lrO A l ws k) :: r) = some (lrF l ws k) := by unfold insAt lrO; simp
  unfold eMeth methR
  rw [i]
  dsimp only
  rw [if_pos n]
  simp [q]
theorem spot_add {A : Ads} {b : Option Nat} {l : Int} {ws : List Str} {k : Nat} {r : Rho} : sFldAdd 0 A.CLineReader (PySem.Str.ofString "spot") (eC (.int 1)) (.own b (lrO A l ws k) :: r) = .nx (.own b (lrO A l ws (k + 1)) :: r) := by
  have n : (PySem.Str.ofString "spot" == PySem.Str.ofString "line") = false := by decide +kernel
  have n2 : (PySem.Str.ofString "spot" == PySem.Str.ofString "row") = false := by decide +kernel
  have m1 := nLR
  have m2 := nLS
  have m3 := nRS
  unfold sFldAdd
  have i : insAt 0 A.CLineReader (.own b (lrO A l ws k) :: r) = some (lrF l ws k) := by unfold insAt lrO; simp
  rw [i]
  simp [lrF, List.lookup_cons, n, n2, insAt, lrO, setO, putFD, m1, m2, m3]
theorem eq_LR_one_of (A : Ads) : ∀ as, f_LR_one_of A as ≠ .stuck → Lt.fin as (gb_LineReader_one_of A (rho0 2 as)) = f_LR_one_of A as := by
  intro as h
  unfold f_LR_one_of at h ⊢
  split at h
  · rename_i o s
    cases e : deLR A o with
    | none => rw [e] at h; exact absurd rfl h
    | some t =>
      obtain ⟨l, ws, k⟩ := t
      have := deLR_is e
      subst this
      cases e2 : wordsOf s with
      | none => rw [e, e2] at h; exact absurd rfl h
      | some xs =>
        simp only [deLR_lr, e2] at h ⊢
        clear e
        have f2 := fldO_row (A := A) (i := 0) (b := some 0) (l := l) (ws := ws) (k := k) (ρ := [.own (some 0) (lrO A l ws k), .val s]) rfl
        have f3 := fldO_spot (A := A) (i := 0) (b := some 0) (l := l) (ws := ws) (k := k) (ρ := [.own (some 0) (lrO A l ws k), .val s]) rfl
        have g2 := fldO_row (A := A) (i := 0) (b := some 0) (l := l) (ws := ws) (k := k + 1) (ρ := [.own (some 0) (lrO A l ws (k + 1)), .val s]) rfl
        have g3 := fldO_spot (A := A) (i := 0) (b := some 0) (l := l) (ws := ws) (k := k + 1) (ρ := [.own (some 0) (lrO A l ws (k + 1)), .val s]) rfl
        have rf := refuse_at (A := A) (b := some 0) (l := l) (ws := ws) (k := k) (r := [.val s])
        have sa := spot_add (A := A) (b := some 0) (l := l) (ws := ws) (k := k) (r := [.val s])
        have eq : eqD (.int (k : Int)) (.int (ws.length : Int)) = some (.bl (decide (k = ws.length))) := by
          rw [rd_eq (okP_shp (n := 0) rfl (by decide)) (okP_shp (n := 0) rfl (by decide)), eqB_int]
          congr 3
          exact propext ⟨fun z => by omega, fun z => by omega⟩
        have len : lenD [.lst (ws.map .str)] = some (.int (ws.length : Int)) := by
          show some (D.int ((ws.map D.str).length : Int)) = _
          rw [List.length_map]
        unfold gb_LineReader_one_of
        generalize eMeth 0 A.CLineReader (PySem.Str.ofString "refuse") (f_LR_refuse A) arNil = M at *
        generalize sFldAdd 0 A.CLineReader (PySem.Str.ofString "spot") (eC (.int 1)) = SA at *
        cases ew : ws[k]? with
        | none =>
          rw [ew] at h
          dsimp only at h ⊢
          split at h
          · rename_i hk
            rw [if_pos hk]
            rw [decide_eq_true hk] at eq
            unfold noText
            generalize (ws.map D.str) = WS at *
            simp [rho0, ent, f2, f3, len, eq, rf, Lt.fin, outs]
          · exact absurd rfl h
        | some w =>
          have hl : k < ws.length := (List.getElem?_eq_some_iff.mp ew).1
          have ne : ¬ (k = ws.length) := by omega
          rw [decide_eq_false ne] at eq
          have at1 : atI (ws.map D.str) (k : Int) = some (.str w) := by
            rw [atI_nat (by omega), Int.toNat_natCast, List.getElem?_map, ew]
            rfl
          have iw := inD_words (w := w) e2
          dsimp only
          by_cases c : w ∈ xs
          · rw [if_pos c]
            rw [decide_eq_true c] at iw
            generalize (ws.map D.str) = WS at *
            simp [rho0, ent, f2, f3, g2, g3, len, eq, at1, iw, sa, Lt.fin, outs]
          · rw [if_neg c]
            rw [decide_eq_false c] at iw
            unfold noText
            generalize (ws.map D.str) = WS at *
            simp [rho0, ent, f2, f3, len, eq, at1, iw, rf, Lt.fin, outs]
  · exact absurd rfl h
end Lt

/-! # LineReader.end, TextReader.__init__ -/
namespace Lt
open PySem PySem.Spec L2
noncomputable def f_LR_end (A : Ads) : Fs := fun as => match as with
  | [.own o] => match deLR A o with
    | some (l, ws, k) => if k < ws.length then noText A l k [.own o] else .ok (.val .non) [.own o]
    | none => .stuck
  | _ => .stuck
theorem lenx_LR_end (A : Ads) : ∀ as, f_LR_end A as ≠ .stuck → as.length = 1 := by
  intro as h
  unfold f_LR_end at h
  split at h
  · rfl
  · exact absurd rfl h
noncomputable def gb_LineReader_end (A : Ads) : Rho → Fl :=
  sIf (eTest (eBin ltD (eFldO 0 A.CLineReader "spot") (eCall lenD (aCons (eFldO 0 A.CLineReader "row") (aNil))))) (sExpr (eMeth 0 A.CLineReader "refuse" (f_LR_refuse A) (arNil))) (sNext)
theorem eq_LR_end (A : Ads) : ∀ as, f_LR_end A as ≠ .stuck → Lt.fin as (gb_LineReader_end A (rho0 1 as)) = f_LR_end A as := by
  intro as h
  unfold f_LR_end at h ⊢
  split at h
  · rename_i o
    cases e : deLR A o with
    | none => rw [e] at h; exact absurd rfl h
    | some t =>
      obtain ⟨l, ws, k⟩ := t
      have := deLR_is e
      subst this
      simp only [deLR_lr] at h ⊢
      have f2 := fldO_row (A := A) (i := 0) (b := some 0) (l := l) (ws := ws) (k := k) (ρ := [.own (some 0) (lrO A l ws k)]) rfl
      have f3 := fldO_spot (A := A) (i := 0) (b := some 0) (l := l) (ws := ws) (k := k) (ρ := [.own (some 0) (lrO A l ws k)]) rfl
      have rf := refuse_at (A := A) (b := some 0) (l := l) (ws := ws) (k := k) (r := [])
      have len : lenD [.lst (ws.map .str)] = some (.int (ws.length : Int)) := by
        show some (D.int ((ws.map D.str).length : Int)) = _
        rw [List.length_map]
      unfold gb_LineReader_end noText
      generalize eMeth 0 A.CLineReader (PySem.Str.ofString "refuse") (f_LR_refuse A) arNil = M at *
      generalize (ws.map D.str) = WS at *
      by_cases c : k < ws.length
      · have c2 : (k : Int) < (ws.length : Int) := by omega
        simp [rho0, ent, f2, f3, len, c, c2, rf, Lt.fin, outs]
      · have c2 : ¬ ((k : Int) < (ws.length : Int)) := by omega
        simp [rho0, ent, f2, f3, len, c, c2, Lt.fin, outs]
  · exact absurd rfl h
/-! ### the rows of a text -/
def nlS : Str := PySem.Str.ofString "\n"
def spS : Str := PySem.Str.ofString " "
def noS : Str := PySem.Str.ofString ""
def rowOf (line : Str) : List Str := (Txt.split line spS).filter fun w => !decide (w = noS)
def rowsOf (t : Str) : List (List Str) := (Txt.split t nlS).map rowOf
structure okText (t : Str) : Prop where
  len : t.length ≤ 10000
  lines : (Txt.split t nlS).length ≤ 10000
  each : ∀ line ∈ Txt.split t nlS, line.length ≤ 10000 ∧ (Txt.split line spS).length ≤ 10000 ∧ ∀ w ∈ Txt.split line spS, PyData.strOk w = true
def rowsD (rows : List (List Str)) : D := .lst (rows.map fun ws => .lst (ws.map .str))
def trF (rows : List (List Str)) (k : Nat) : List (Str × D) := [(PySem.Str.ofString "rows", rowsD rows), (PySem.Str.ofString "done", .int (k : Int))]
def trO (A : Ads) (rows : List (List Str)) (k : Nat) : O := .ins A.CTextReader (trF rows k)
open Classical in
noncomputable def f_TR_init (A : Ads) : Fs := fun as => match as with
  | [.own (.ins C []), .val (.str t)] => if C = A.CTextReader ∧ okText t then .ok (.val .non) [.own (trO A (rowsOf t) 0), .val (.str t)] else .stuck
  | _ => .stuck
theorem lenx_TR_init (A : Ads) : ∀ as, f_TR_init A as ≠ .stuck → as.length = 2 := by
  intro as h
  unfold f_TR_init at h
  split at h
  · rfl
  · exact absurd rfl h
theorem TR_init_ok {A : Ads} {t : Str} (h : okText t) : f_TR_init A [.own (.ins A.CTextReader []), .val (.str t)] = .ok (.val .non) [.own (trO A (rowsOf t) 0), .val (.str t)] := by
  unfold f_TR_init
  simp [h]
noncomputable def gb_TextReader___init__ (A : Ads) : Rho → Fl :=
  sSeq (sFldO 0 A.CTextReader "rows" (eLcQ [2] (iSeq (eM1 splitD (eVar 1) (eC (.str (PySem.Str.ofString "\n"))))) (gSet 2) (tYesD) (eLcQ [3] (iSeq (eM1 splitD (eVar 2) (eC (.str (PySem.Str.ofString " "))))) (gSet 3) (eTest (eBin neD (eVar 3) (eC (.str (PySem.Str.ofString ""))))) (eVar 3)))) (sFldO 0 A.CTextReader "done" (eC (.int 0)))
theorem split_ok {a b : Str} (hb : (b.length == 0) = false) (h : a.length ≤ 10000) : splitD (.str a) (.str b) = some (.lst ((Txt.split a b).map .str)) := by
  unfold splitD
  dsimp only
  rw [if_pos ⟨hb, by rw [sizeLine_eq]; omega⟩]
theorem eq_TR_init (A : Ads) : ∀ as, f_TR_init A as ≠ .stuck → Lt.fin as (gb_TextReader___init__ A (rho0 4 as)) = f_TR_init A as := by
  intro as h
  unfold f_TR_init at h ⊢
  split at h
  · rename_i C t
    split at h
    · rename_i hz
      rw [if_pos hz]
      obtain ⟨rfl, ok⟩ := hz
      have s1 := split_ok (a := t) (b := nlS) (by decide +kernel) ok.len
      have n1 : ¬ (PySem.Str.ofString "rows" = PySem.Str.ofString "done") := by decide +kernel
      have inner : ∀ line ∈ Txt.split t nlS, eLcQ [3] (iSeq (eM1 splitD (eVar 2) (eC (.str (PySem.Str.ofString " "))))) (gSet 3) (eTest (eBin neD (eVar 3) (eC (.str (PySem.Str.ofString ""))))) (eVar 3) [.own (some 0) (.ins A.CTextReader []), .val (.str t), .val (.str line), .no] =
          .ok (.lst ((rowOf line).map .str)) [.own (some 0) (.ins A.CTextReader []), .val (.str t), .val (.str line), .no] := by
        intro line hl
        obtain ⟨e1, e2, e3⟩ := ok.each line hl
        have s2 := split_ok (a := line) (b := spS) (by decide +kernel) e1
        have l1 := lcD_by (vs := [3]) (gt := gSet 3) (t := eTest (eBin neD (eVar 3) (eC (.str (PySem.Str.ofString ""))))) (ge := eVar 3)
          (c := [.own (some 0) (.ins A.CTextReader []), .val (.str t), .val (.str line), .no]) D.str (fun w => [.own (some 0) (.ins A.CTextReader []), .val (.str t), .val (.str line), .val (.str w)]) (fun w => !decide (w = noS)) D.str (Txt.split line spS) []
          [.own (some 0) (.ins A.CTextReader []), .val (.str t), .val (.str line), .no] rfl (fun w hw => by
            have q := ne_str (x := w) (y := noS) (e3 w hw) (by decide +kernel)
            unfold noS at q ⊢
            exact ⟨rfl, by simp [q], fun _ => rfl, rfl⟩) (by rw [sizeLine_eq]; simp; omega)
        rw [List.nil_append] at l1
        unfold spS at s2 l1
        unfold rowOf spS
        simp [s2, l1]
      have l2 := lcD_by (vs := [2]) (gt := gSet 2) (t := tYesD) (ge := eLcQ [3] (iSeq (eM1 splitD (eVar 2) (eC (.str (PySem.Str.ofString " "))))) (gSet 3) (eTest (eBin neD (eVar 3) (eC (.str (PySem.Str.ofString ""))))) (eVar 3))
        (c := [.own (some 0) (.ins A.CTextReader []), .val (.str t), .no, .no]) D.str (fun line => [.own (some 0) (.ins A.CTextReader []), .val (.str t), .val (.str line), .no]) (fun _ => true) (fun line => .lst ((rowOf line).map .str)) (Txt.split t nlS) []
        [.own (some 0) (.ins A.CTextReader []), .val (.str t), .no, .no] rfl (fun line hl => ⟨rfl, rfl, fun _ => inner line hl, rfl⟩) (by rw [sizeLine_eq]; simp; have := ok.lines; omega)
      have ft : (Txt.split t nlS).filter (fun _ => true) = Txt.split t nlS := by simp
      rw [List.nil_append, ft] at l2
      unfold gb_TextReader___init__
      generalize eLcQ [3] (iSeq (eM1 splitD (eVar 2) (eC (.str (PySem.Str.ofString " "))))) (gSet 3) (eTest (eBin neD (eVar 3) (eC (.str (PySem.Str.ofString ""))))) (eVar 3) = IN at *
      unfold nlS at s1 l2
      simp [rho0, ent, s1, l2, rd_fldO, insAt, setO, putFD, n1, Lt.fin, outs, trO, trF, rowsD, rowsOf, nlS, List.map_map, Function.comp_def]
    · exact absurd rfl h
  · exact absurd rfl h
end Lt

/-! # TextReader.take -/
namespace Lt
open PySem PySem.Spec L2
theorem one_of_ok {A : Ads} {l : Int} {ws xs : List Str} {k : Nat} {s : D} {w : Str} (hx : wordsOf s = some xs) (hw : ws[k]? = some w) (hm : w ∈ xs) : f_LR_one_of A [.own (lrO A l ws k), .val s] = .ok (.val (.str w)) [.own (lrO A l ws (k + 1)), .val s] := by
  unfold f_LR_one_of
  simp only [deLR_lr, hx, hw]
  rw [if_pos hm]
theorem one_of_bad {A : Ads} {l : Int} {ws xs : List Str} {k : Nat} {s : D} (hx : wordsOf s = some xs) (hk : k ≤ ws.length) (hm : ∀ w, ws[k]? = some w → w ∉ xs) : f_LR_one_of A [.own (lrO A l ws k), .val s] = noText A l k [.own (lrO A l ws k), .val s] := by
  unfold f_LR_one_of
  simp only [deLR_lr, hx]
  cases e : ws[k]? with
  | none =>
    have := List.getElem?_eq_none_iff.mp e
    dsimp only
    rw [if_pos (by omega)]
  | some w =>
    dsimp only
    rw [if_neg (hm w e)]
def asRows : List D → Option (List (List Str))
  | [] => some []
  | .lst ds :: r => match asStrs ds, asRows r with
    | some ws, some rs => some (ws :: rs)
    | _, _ => none
  | _ => none
theorem asRows_map : ∀ rows : List (List Str), asRows (rows.map fun ws => .lst (ws.map .str)) = some rows
  | [] => rfl
  | ws :: r => by rw [List.map_cons, asRows, asStrs_map, asRows_map r]
theorem asRows_is : ∀ {ds : List D} {rows : List (List Str)}, asRows ds = some rows → ds = rows.map fun ws => .lst (ws.map .str)
  | [], rows, h => by cases h; rfl
  | d :: r, rows, h => by
    cases d <;> simp only [asRows, reduceCtorEq] at h
    rename_i ds
    split at h
    · rename_i ws rs e1 e2
      cases h
      rw [asStrs_is e1, asRows_is e2]
      rfl
    · cases h
def deTR (A : Ads) : O → Option (List (List Str) × Nat)
  | .ins C [(n1, .lst ds), (n2, .int k)] => if C = A.CTextReader ∧ n1 = PySem.Str.ofString "rows" ∧ n2 = PySem.Str.ofString "done" ∧ 0 ≤ k then (asRows ds).map fun rows => (rows, k.toNat) else none
  | _ => none
@[simp] theorem deTR_tr (A : Ads) (rows : List (List Str)) (k : Nat) : deTR A (trO A rows k) = some (rows, k) := by
  unfold trO trF rowsD deTR
  dsimp only
  rw [if_pos ⟨rfl, rfl, rfl, by omega⟩, asRows_map]
  rfl
theorem deTR_is {A : Ads} {o : O} {rows : List (List Str)} {k : Nat} (h : deTR A o = some (rows, k)) : o = trO A rows k := by
  unfold deTR at h
  split at h
  · split at h
    · rename_i hz
      obtain ⟨rfl, rfl, rfl, hk⟩ := hz
      obtain ⟨ws', e1, e2⟩ := Option.map_eq_some_iff.mp h
      cases e2
      rw [asRows_is e1]
      unfold trO trF rowsD
      congr 5
      omega
    · cases h
  · cases h
open Classical in
noncomputable def f_TR_take (A : Ads) : Fs := fun as => match as with
  | [.own o, .val (.str head)] => match deTR A o with
    | some (rows, k) => match rows[k]? with
      | some ws => if ws[0]? = some head then .ok (.own (lrO A ((k : Int) + 1) ws 1)) [.own (trO A rows (k + 1)), .val (.str head)] else noText A ((k : Int) + 1) 0 [.own (trO A rows (k + 1)), .val (.str head)]
      | none => if k = rows.length then noText A ((rows.length : Int) + 1) 0 [.own (trO A rows k), .val (.str head)] else .stuck
    | none => .stuck
  | _ => .stuck
theorem lenx_TR_take (A : Ads) : ∀ as, f_TR_take A as ≠ .stuck → as.length = 2 := by
  intro as h
  unfold f_TR_take at h
  split at h
  · rfl
  · exact absurd rfl h
noncomputable def gb_TextReader_take (A : Ads) : Rho → Fl :=
  sSeq (sIf (eTest (eBin eqD (eFldO 0 A.CTextReader "done") (eCall lenD (aCons (eFldO 0 A.CTextReader "rows") (aNil))))) (sRaise A.CInvalidText ["line", "word"] (aCons (eBin addD (eCall lenD (aCons (eFldO 0 A.CTextReader "rows") (aNil))) (eC (.int 1))) (aCons (eC (.int 1)) (aNil)))) (sNext)) (sSeq (sFldAdd 0 A.CTextReader "done" (eC (.int 1))) (sSeq (sSetO 2 (oMake (f_LR_init A) A.CLineReader (aCons (eFldO 0 A.CTextReader "done") (aCons (eBin ixD (eFldO 0 A.CTextReader "rows") (eBin subD (eFldO 0 A.CTextReader "done") (eC (.int 1)))) (aNil))))) (sSeq (sExpr (eMeth 2 A.CLineReader "one_of" (f_LR_one_of A) (arVal (eTup (aCons (eVar 1) (aNil))) (arNil)))) (sRetO 2))))
theorem fldO_rows {i : Nat} {A : Ads} {b : Option Nat} {rows : List (List Str)} {k : Nat} {ρ : Rho} (h : ρ[i]? = some (.own b (trO A rows k))) : eFldO i A.CTextReader (PySem.Str.ofString "rows") ρ = .ok (rowsD rows) ρ := by
  unfold eFldO insAt
  rw [h]
  simp [trO, trF, List.lookup_cons]
theorem fldO_done {i : Nat} {A : Ads} {b : Option Nat} {rows : List (List Str)} {k : Nat} {ρ : Rho} (h : ρ[i]? = some (.own b (trO A rows k))) : eFldO i A.CTextReader (PySem.Str.ofString "done") ρ = .ok (.int (k : Int)) ρ := by
  have n : (PySem.Str.ofString "done" == PySem.Str.ofString "rows") = false := by decide +kernel
  unfold eFldO insAt
  rw [h]
  simp [trO, trF, List.lookup_cons, n]
theorem done_add {A : Ads} {b : Option Nat} {rows : List (List Str)} {k : Nat} {r : Rho} : sFldAdd 0 A.CTextReader (PySem.Str.ofString "done") (eC (.int 1)) (.own b (trO A rows k) :: r) = .nx (.own b (trO A rows (k + 1)) :: r) := by
  have n : (PySem.Str.ofString "done" == PySem.Str.ofString "rows") = false := by decide +kernel
  have m1 : ¬ (PySem.Str.ofString "rows" = PySem.Str.ofString "done") := by decide +kernel
  unfold sFldAdd
  have i : insAt 0 A.CTextReader (.own b (trO A rows k) :: r) = some (trF rows k) := by unfold insAt trO; simp
  rw [i]
  simp [trF, List.lookup_cons, n, insAt, trO, setO, putFD, m1]
theorem lr_none1 {l : Int} {ws : List Str} {k : Nat} : ((lrF l ws k).lookup (PySem.Str.ofString "one_of")).isNone = true := by
  have n1 : (PySem.Str.ofString "one_of" == PySem.Str.ofString "line") = false := by decide +kernel
  have n2 : (PySem.Str.ofString "one_of" == PySem.Str.ofString "row") = false := by decide +kernel
  have n3 : (PySem.Str.ofString "one_of" == PySem.Str.ofString "spot") = false := by decide +kernel
  simp [lrF, List.lookup_cons, n1, n2, n3]
theorem eq_TR_take (A : Ads) : ∀ as, f_TR_take A as ≠ .stuck → Lt.fin as (gb_TextReader_take A (rho0 3 as)) = f_TR_take A as := by
  intro as h
  unfold f_TR_take at h ⊢
  split at h
  · rename_i o head
    cases e : deTR A o with
    | none => rw [e] at h; exact absurd rfl h
    | some t =>
      obtain ⟨rows, k⟩ := t
      have := deTR_is e
      subst this
      simp only [deTR_tr] at h ⊢
      clear e
      have f1 := fldO_rows (A := A) (i := 0) (b := some 0) (rows := rows) (k := k) (ρ := [.own (some 0) (trO A rows k), .val (.str head), .no]) rfl
      have f2 := fldO_done (A := A) (i := 0) (b := some 0) (rows := rows) (k := k) (ρ := [.own (some 0) (trO A rows k), .val (.str head), .no]) rfl
      have g1 := fldO_rows (A := A) (i := 0) (b := some 0) (rows := rows) (k := k + 1) (ρ := [.own (some 0) (trO A rows (k + 1)), .val (.str head), .no]) rfl
      have g2 := fldO_done (A := A) (i := 0) (b := some 0) (rows := rows) (k := k + 1) (ρ := [.own (some 0) (trO A rows (k + 1)), .val (.str head), .no]) rfl
      have da := done_add (A := A) (b := some 0) (rows := rows) (k := k) (r := [.val (.str head), .no])
      have len : lenD [rowsD rows] = some (.int (rows.length : Int)) := by
        show some (D.int ((rows.map fun ws => D.lst (ws.map .str)).length : Int)) = _
        rw [List.length_map]
      have eq : eqD (.int (k : Int)) (.int (rows.length : Int)) = some (.bl (decide (k = rows.length))) := by
        rw [rd_eq (okP_shp (n := 0) rfl (by decide)) (okP_shp (n := 0) rfl (by decide)), eqB_int]
        congr 3
        exact propext ⟨fun z => by omega, fun z => by omega⟩
      unfold gb_TextReader_take
      generalize sFldAdd 0 A.CTextReader (PySem.Str.ofString "done") (eC (.int 1)) = SA at *
      cases ew : rows[k]? with
      | none =>
        rw [ew] at h
        dsimp only at h ⊢
        split at h
        · rename_i hk
          rw [if_pos hk]
          rw [decide_eq_true hk] at eq
          unfold noText
          generalize rowsD rows = RD at *
          generalize trO A rows k = T0 at *
          simp [rho0, ent, f1, f2, len, eq, Lt.fin, outs]
        · exact absurd rfl h
      | some ws =>
        have hl : k < rows.length := (List.getElem?_eq_some_iff.mp ew).1
        have ne : ¬ (k = rows.length) := by omega
        rw [decide_eq_false ne] at eq
        have at1 : ixD (rowsD rows) (.int (k : Int)) = some (.lst (ws.map .str)) := by
          show atI (rows.map fun ws => D.lst (ws.map .str)) (k : Int) = _
          rw [atI_nat (by omega), Int.toNat_natCast, List.getElem?_map, ew]
          rfl
        have mk := LR_init_ok (A := A) (l := (k : Int) + 1) (ws := ws)
        have wo : wordsOf (.tup [.str head]) = some [head] := rfl
        have i2 : insAt 2 A.CLineReader [.own (some 0) (trO A rows (k + 1)), .val (.str head), .own none (lrO A ((k : Int) + 1) ws 0)] = some (lrF ((k : Int) + 1) ws 0) := by unfold insAt lrO; simp
        have n1 := lr_none1 (l := (k : Int) + 1) (ws := ws) (k := 0)
        dsimp only
        by_cases c : ws[0]? = some head
        · rw [if_pos c]
          have oo := one_of_ok (A := A) (l := (k : Int) + 1) wo c (by simp)
          have me : eMeth 2 A.CLineReader (PySem.Str.ofString "one_of") (f_LR_one_of A) (arVal (eTup (aCons (eVar 1) aNil)) arNil) [.own (some 0) (trO A rows (k + 1)), .val (.str head), .own none (lrO A ((k : Int) + 1) ws 0)] =
              .ok (.str head) [.own (some 0) (trO A rows (k + 1)), .val (.str head), .own none (lrO A ((k : Int) + 1) ws 1)] := by
            unfold eMeth methR
            rw [i2]
            dsimp only
            rw [if_pos n1]
            simp [oo]
          generalize rowsD rows = RD at *
          generalize trO A rows k = T0 at *
          generalize trO A rows (k + 1) = T1 at *
          generalize (ws.map D.str) = WS at *
          generalize eMeth 2 A.CLineReader (PySem.Str.ofString "one_of") (f_LR_one_of A) (arVal (eTup (aCons (eVar 1) aNil)) arNil) = ME at *
          simp [rho0, ent, f1, f2, g1, g2, len, eq, da, at1, mk, me, Lt.fin, outs]
        · rw [if_neg c]
          have oo := one_of_bad (A := A) (l := (k : Int) + 1) (ws := ws) (k := 0) wo (by omega) (fun w hw hm => c (by rw [hw]; simpa using hm))
          have me : eMeth 2 A.CLineReader (PySem.Str.ofString "one_of") (f_LR_one_of A) (arVal (eTup (aCons (eVar 1) aNil)) arNil) [.own (some 0) (trO A rows (k + 1)), .val (.str head), .own none (lrO A ((k : Int) + 1) ws 0)] =
              .exc A.CInvalidText ["word", "line"] [.int (((0 : Nat) : Int) + 1), .int ((k : Int) + 1)] [.own (some 0) (trO A rows (k + 1)), .val (.str head), .own none (lrO A ((k : Int) + 1) ws 0)] := by
            unfold noText at oo
            unfold eMeth methR
            rw [i2]
            dsimp only
            rw [if_pos n1]
            simp [oo]
          unfold noText
          generalize rowsD rows = RD at *
          generalize trO A rows k = T0 at *
          generalize trO A rows (k + 1) = T1 at *
          generalize (ws.map D.str) = WS at *
          generalize eMeth 2 A.CLineReader (PySem.Str.ofString "one_of") (f_LR_one_of A) (arVal (eTup (aCons (eVar 1) aNil)) arNil) = ME at *
          simp [rho0, ent, f1, f2, g1, g2, len, eq, da, at1, mk, me, Lt.fin, outs]
  · exact absurd rfl h
end Lt

/-! # LineReader.places -/
namespace Lt
open PySem PySem.Spec L2
def txI (p : Int) : Str := toString p
theorem txI_ok : ∀ p ∈ ([1, 2, 3, 4, 5] : List Int), PySem.intText? (txI p) = some p ∧ (txI p).length ≤ 640 ∧ p.natAbs.log2 < 1920 := by decide +kernel
theorem txI_inj : ∀ p ∈ ([1, 2, 3, 4, 5] : List Int), ∀ q ∈ ([1, 2, 3, 4, 5] : List Int), txI p = txI q → p = q := by decide +kernel
/-- the words that are left, read as rising numbers: the number of words read before the first wrong one, or all of them -/
def plcR (m l : Int) : List Int → List Str → Nat ⊕ List Int
  | found, [] => .inr found
  | found, w :: r => if (found.length : Int) < m then match (rng (last0 found + 1) (l + 1)).find? fun p => decide (txI p = w) with
      | some p => plcR m l (found ++ [p]) r
      | none => .inl found.length
    else .inl found.length
noncomputable def plB17 (A : Ads) : Rho → Fl := sSeq (sSet 4 (eBin addD (eCall sumA (aCons (eSlice (eVar 3) (oSome (eUn negD (eC (.int 1)))) (oNone)) (aNil))) (eC (.int 1)))) (sSeq (sSet 5 (eIf (eTest (eBin ltD (eCall lenD (aCons (eVar 3) (aNil))) (eVar 1))) (eLcQ [6] (iRng2D (aCons (eVar 4) (aCons (eBin addD (eVar 2) (eC (.int 1))) (aNil)))) (gSet 6) (tYesD) (eCall strD (aCons (eVar 6) (aNil)))) (eLst (aNil)))) (sSet 3 (eBin addD (eVar 3) (eTup (aCons (eCall intSD (aCons (eMeth 0 A.CLineReader "one_of" (f_LR_one_of A) (arVal (eVar 5) (arNil))) (aNil))) (aNil))))))
/-- the words that may stand next -/
def mayN (m l : Int) (found : List Int) : List Str := if (found.length : Int) < m then (rng (last0 found + 1) (l + 1)).map txI else []
theorem mayN_strs {m l : Int} {found : List Int} : wordsOf (.lst ((mayN m l found).map .str)) = some (mayN m l found) := asStrs_map _
theorem meth17 {A : Ads} {b : Option Nat} {l0 : Int} {ws : List Str} {k : Nat} {xs : List Str} {s1 s2 s3 s4 s6 : Lt.S} : eMeth 0 A.CLineReader "one_of" (f_LR_one_of A) (arVal (eVar 5) (arNil)) [.own b (lrO A l0 ws k), s1, s2, s3, s4, .val (.lst (xs.map .str)), s6] =
    match f_LR_one_of A [.own (lrO A l0 ws k), .val (.lst (xs.map .str))] with
    | .ok r bs => (match r with | .val d => .ok d (putBack [.slot 0, .val (.lst (xs.map .str))] bs [.own b (lrO A l0 ws k), s1, s2, s3, s4, .val (.lst (xs.map .str)), s6]) | _ => .stuck)
    | .exc C ns ys bs => .exc C ns ys (putBack [.slot 0, .val (.lst (xs.map .str))] bs [.own b (lrO A l0 ws k), s1, s2, s3, s4, .val (.lst (xs.map .str)), s6])
    | .stuck => .stuck := by
  have i : insAt 0 A.CLineReader [.own b (lrO A l0 ws k), s1, s2, s3, s4, .val (.lst (xs.map .str)), s6] = some (lrF l0 ws k) := by unfold insAt lrO; simp
  have n1 := lr_none1 (l := l0) (ws := ws) (k := k)
  unfold eMeth methR
  rw [i]
  dsimp only
  rw [if_pos n1]
  cases ef : f_LR_one_of A [.own (lrO A l0 ws k), .val (.lst (xs.map .str))] with
  | stuck => simp [ef]
  | exc C ns ys bs => simp [ef]
  | ok r bs => cases r <;> simp [ef]
/-- up to the call of one_of -/
theorem turn17 {A : Ads} {b : Option Nat} {l0 m l : Int} {ws : List Str} {k : Nat} {found : List Int} {s4 s5 : Lt.S} (hf : ∀ p ∈ found, 1 ≤ p ∧ p ≤ 5) (hl : 0 ≤ l ∧ l ≤ 5) (hn : found.length ≤ 100) :
    plB17 A [.own b (lrO A l0 ws k), .val (.int m), .val (.int l), .val (.tup (found.map .int)), s4, s5, .no] =
      (sSet 3 (eBin addD (eVar 3) (eTup (aCons (eCall intSD (aCons (eMeth 0 A.CLineReader "one_of" (f_LR_one_of A) (arVal (eVar 5) (arNil))) (aNil))) (aNil))))) [.own b (lrO A l0 ws k), .val (.int m), .val (.int l), .val (.tup (found.map .int)), .val (.int (last0 found + 1)), .val (.lst ((mayN m l found).map .str)), .no] := by
  have s1 := sum_last found
  simp only [rd_sumT] at s1
  have l0' : 0 ≤ last0 found := last0_pos fun v hv => (hf v hv).1
  have len : lenD [.tup (found.map .int)] = some (.int (found.length : Int)) := by
    show some (D.int ((found.map D.int).length : Int)) = _
    rw [List.length_map]
  have l5 : last0 found ≤ 5 := by
    rcases last0_mem found with e | e
    · omega
    · exact (hf _ e).2
  have rg1 : b62 (last0 found + 1) := b62_of (by omega) (by omega)
  have rg2 : b62 (l + 1) := b62_of (by omega) (by omega)
  have ir := iRange_rng (last0 found + 1) (l + 1)
  have lc := lcD_by (vs := [6]) (gt := gSet 6) (t := tYesD) (ge := eCall strD (aCons (eVar 6) (aNil)))
    (c := [.own b (lrO A l0 ws k), .val (.int m), .val (.int l), .val (.tup (found.map .int)), .val (.int (last0 found + 1)), s5, .no]) D.int (fun p => [.own b (lrO A l0 ws k), .val (.int m), .val (.int l), .val (.tup (found.map .int)), .val (.int (last0 found + 1)), s5, .val (.int p)]) (fun _ => true) (fun p => .str (txI p)) (rng (last0 found + 1) (l + 1)) []
    [.own b (lrO A l0 ws k), .val (.int m), .val (.int l), .val (.tup (found.map .int)), .val (.int (last0 found + 1)), s5, .no] rfl (fun p hp => by
      obtain ⟨p1, p2⟩ := mem_rng.mp hp
      have pm : p ∈ ([1, 2, 3, 4, 5] : List Int) := by
        have : p = 1 ∨ p = 2 ∨ p = 3 ∨ p = 4 ∨ p = 5 := by omega
        rcases this with rfl | rfl | rfl | rfl | rfl <;> decide
      have q := (txI_ok p pm).2.2
      have st : strD [.int p] = some (.str (txI p)) := by show (if p.natAbs.log2 < 1920 then some (D.str (toString p)) else none) = _; rw [if_pos q]; rfl
      exact ⟨rfl, rfl, fun _ => by simp [st], rfl⟩) (by rw [sizeLine_eq, rng_length]; simp; omega)
  have ft : (rng (last0 found + 1) (l + 1)).filter (fun _ => true) = rng (last0 found + 1) (l + 1) := by simp
  rw [List.nil_append, ft] at lc
  unfold plB17 mayN
  generalize sSet 3 (eBin addD (eVar 3) (eTup (aCons (eCall intSD (aCons (eMeth 0 A.CLineReader "one_of" (f_LR_one_of A) (arVal (eVar 5) (arNil))) (aNil))) (aNil)))) = NX at *
  by_cases c : (found.length : Int) < m
  · simp [s1, len, c, rg1, rg2, ir, lc, -rd_rng1, -rd_rng2, rd_rng1b, rd_rng2b, List.map_map, Function.comp_def]
  · simp [s1, len, c]
end Lt

/-! # LineReader.places: a turn -/
namespace Lt
open PySem PySem.Spec L2
theorem add_t9 {xs ys : List D} (h : xs.length + ys.length ≤ 1000000) : addD (.tup xs) (.tup ys) = some (.tup (xs ++ ys)) := by
  unfold addD
  dsimp only
  rw [if_pos (size_le (by omega))]
theorem in15 {p l : Int} {found : List Int} (hf : ∀ p ∈ found, 1 ≤ p ∧ p ≤ 5) (hl : 0 ≤ l ∧ l ≤ 5) (hp : p ∈ rng (last0 found + 1) (l + 1)) : p ∈ ([1, 2, 3, 4, 5] : List Int) := by
  have l0' : 0 ≤ last0 found := last0_pos fun v hv => (hf v hv).1
  obtain ⟨p1, p2⟩ := mem_rng.mp hp
  have : p = 1 ∨ p = 2 ∨ p = 3 ∨ p = 4 ∨ p = 5 := by omega
  rcases this with rfl | rfl | rfl | rfl | rfl <;> decide
theorem step_ok {A : Ads} {b : Option Nat} {l0 m l p : Int} {ws : List Str} {k : Nat} {found : List Int} {s4 s5 : Lt.S} (hf : ∀ p ∈ found, 1 ≤ p ∧ p ≤ 5) (hl : 0 ≤ l ∧ l ≤ 5) (hn : found.length ≤ 100) (hm : (found.length : Int) < m) (hp : p ∈ rng (last0 found + 1) (l + 1)) (hw : ws[k]? = some (txI p)) :
    ∃ t4 t5 : Lt.S, plB17 A [.own b (lrO A l0 ws k), .val (.int m), .val (.int l), .val (.tup (found.map .int)), s4, s5, .no] = .nx [.own b (lrO A l0 ws (k + 1)), .val (.int m), .val (.int l), .val (.tup ((found ++ [p]).map .int)), t4, t5, .no] := by
  have mem : txI p ∈ mayN m l found := by unfold mayN; rw [if_pos hm]; exact List.mem_map.mpr ⟨p, hp, rfl⟩
  have oo := one_of_ok (A := A) (l := l0) mayN_strs hw mem
  have q := txI_ok p (in15 hf hl hp)
  have it : intSD [.str (txI p)] = some (.int p) := by
    show (if (txI p).length ≤ 640 then (PySem.intText? (txI p)).map D.int else none) = _
    rw [if_pos q.2.1, q.1]
    rfl
  have mt := meth17 (A := A) (b := b) (l0 := l0) (ws := ws) (k := k) (xs := mayN m l found) (s1 := .val (.int m)) (s2 := .val (.int l)) (s3 := .val (.tup (found.map .int))) (s4 := .val (.int (last0 found + 1))) (s6 := .no)
  rw [oo] at mt
  have ad := add_t9 (xs := found.map .int) (ys := [.int p]) (by simp; omega)
  refine ⟨.val (.int (last0 found + 1)), .val (.lst ((mayN m l found).map .str)), ?_⟩
  rw [turn17 hf hl hn, List.map_append]
  generalize eMeth 0 A.CLineReader "one_of" (f_LR_one_of A) (arVal (eVar 5) (arNil)) = ME at *
  generalize (mayN m l found).map D.str = WS at *
  generalize found.map D.int = FD at *
  simp at mt
  simp [mt, it, ad]
theorem step_bad {A : Ads} {b : Option Nat} {l0 m l : Int} {ws : List Str} {k : Nat} {found : List Int} {s4 s5 : Lt.S} (hf : ∀ p ∈ found, 1 ≤ p ∧ p ≤ 5) (hl : 0 ≤ l ∧ l ≤ 5) (hn : found.length ≤ 100) (hk : k ≤ ws.length) (hw : ∀ w, ws[k]? = some w → w ∉ mayN m l found) :
    ∃ t4 t5 : Lt.S, plB17 A [.own b (lrO A l0 ws k), .val (.int m), .val (.int l), .val (.tup (found.map .int)), s4, s5, .no] = .exc A.CInvalidText ["word", "line"] [.int ((k : Int) + 1), .int l0] [.own b (lrO A l0 ws k), .val (.int m), .val (.int l), .val (.tup (found.map .int)), t4, t5, .no] := by
  have oo := one_of_bad (A := A) (l := l0) mayN_strs hk hw
  have mt := meth17 (A := A) (b := b) (l0 := l0) (ws := ws) (k := k) (xs := mayN m l found) (s1 := .val (.int m)) (s2 := .val (.int l)) (s3 := .val (.tup (found.map .int))) (s4 := .val (.int (last0 found + 1))) (s6 := .no)
  unfold noText at oo
  rw [oo] at mt
  refine ⟨.val (.int (last0 found + 1)), .val (.lst ((mayN m l found).map .str)), ?_⟩
  rw [turn17 hf hl hn]
  generalize eMeth 0 A.CLineReader "one_of" (f_LR_one_of A) (arVal (eVar 5) (arNil)) = ME at *
  generalize (mayN m l found).map D.str = WS at *
  generalize found.map D.int = FD at *
  simp at mt
  simp [mt]
end Lt

/-! # LineReader.places: the loop -/
namespace Lt
open PySem PySem.Spec L2
theorem plcR_ge {m l : Int} : ∀ {rest : List Str} {found : List Int} {j : Nat}, plcR m l found rest = .inl j → found.length ≤ j
  | [], found, j, h => by cases h
  | w :: r, found, j, h => by
    unfold plcR at h
    split at h
    · split at h
      · have := plcR_ge h
        rw [List.length_append] at this
        simp at this
        omega
      · cases h; exact Nat.le_refl _
    · cases h; exact Nat.le_refl _
noncomputable def plT17 (A : Ads) : Rho → Out Bool := eTest (eBin ltD (eFldO 0 A.CLineReader "spot") (eCall lenD (aCons (eFldO 0 A.CLineReader "row") (aNil))))
theorem plT17_at {A : Ads} {b : Option Nat} {l0 : Int} {ws : List Str} {k : Nat} {r : Rho} : plT17 A (.own b (lrO A l0 ws k) :: r) = .ok (decide (k < ws.length)) (.own b (lrO A l0 ws k) :: r) := by
  have f2 := fldO_row (A := A) (i := 0) (b := b) (l := l0) (ws := ws) (k := k) (ρ := .own b (lrO A l0 ws k) :: r) rfl
  have f3 := fldO_spot (A := A) (i := 0) (b := b) (l := l0) (ws := ws) (k := k) (ρ := .own b (lrO A l0 ws k) :: r) rfl
  have len : lenD [.lst (ws.map .str)] = some (.int (ws.length : Int)) := by
    show some (D.int ((ws.map D.str).length : Int)) = _
    rw [List.length_map]
  unfold plT17
  generalize (ws.map D.str) = WS at *
  by_cases c : k < ws.length
  · have c2 : (k : Int) < (ws.length : Int) := by omega
    simp [f2, f3, len, c, c2]
  · have c2 : ¬ ((k : Int) < (ws.length : Int)) := by omega
    simp [f2, f3, len, c, c2]
theorem plc_loop {A : Ads} {b : Option Nat} {l0 m l : Int} {ws : List Str} (hl : 0 ≤ l ∧ l ≤ 5) : ∀ (rest : List Str) (k : Nat) (found : List Int) (s4 s5 : Lt.S), ws.drop k = rest → k ≤ ws.length → (∀ p ∈ found, 1 ≤ p ∧ p ≤ 5) → found.length + rest.length ≤ 100 →
    ∃ (n : Nat) (r : Rho), whileN (plT17 A) (plB17 A) n [.own b (lrO A l0 ws k), .val (.int m), .val (.int l), .val (.tup (found.map .int)), s4, s5, .no] = match plcR m l found rest with
      | .inr fd => .nx (.own b (lrO A l0 ws ws.length) :: .val (.int m) :: .val (.int l) :: .val (.tup (fd.map .int)) :: r)
      | .inl j => .exc A.CInvalidText ["word", "line"] [.int (((k + (j - found.length) : Nat) : Int) + 1), .int l0] (.own b (lrO A l0 ws (k + (j - found.length))) :: .val (.int m) :: .val (.int l) :: r)
  | [], k, found, s4, s5, hr, hk, hf, hn => by
    have : ws.length ≤ k := by have := congrArg List.length hr; rw [List.length_drop] at this; simp at this; omega
    have e : k = ws.length := by omega
    subst e
    refine ⟨1, [s4, s5, .no], ?_⟩
    unfold whileN
    rw [plT17_at, decide_eq_false (by omega)]
    rfl
  | w :: rest, k, found, s4, s5, hr, hk, hf, hn => by
    have hlt : k < ws.length := by
      by_cases c : k < ws.length
      · exact c
      · rw [List.drop_eq_nil_iff.mpr (by omega)] at hr; cases hr
    rw [List.drop_eq_getElem_cons hlt] at hr
    obtain ⟨e1, e2⟩ := List.cons.inj hr
    have hw : ws[k]? = some w := by rw [List.getElem?_eq_getElem hlt, e1]
    have ln : found.length ≤ 100 := by simp at hn; omega
    have bad : (∀ v, ws[k]? = some v → v ∉ mayN m l found) → plcR m l found (w :: rest) = .inl found.length → ∃ (n : Nat) (r : Rho), whileN (plT17 A) (plB17 A) n [.own b (lrO A l0 ws k), .val (.int m), .val (.int l), .val (.tup (found.map .int)), s4, s5, .no] = match plcR m l found (w :: rest) with
        | .inr fd => .nx (.own b (lrO A l0 ws ws.length) :: .val (.int m) :: .val (.int l) :: .val (.tup (fd.map .int)) :: r)
        | .inl j => .exc A.CInvalidText ["word", "line"] [.int (((k + (j - found.length) : Nat) : Int) + 1), .int l0] (.own b (lrO A l0 ws (k + (j - found.length))) :: .val (.int m) :: .val (.int l) :: r) := fun hb hp => by
      obtain ⟨t4, t5, q⟩ := step_bad (A := A) (b := b) (l0 := l0) (m := m) (l := l) (s4 := s4) (s5 := s5) hf hl ln hk hb
      refine ⟨1, [.val (.tup (found.map .int)), t4, t5, .no], ?_⟩
      unfold whileN
      rw [plT17_at, decide_eq_true hlt, hp]
      simp [q]
    by_cases c : (found.length : Int) < m
    · cases ef : (rng (last0 found + 1) (l + 1)).find? fun p => decide (txI p = w) with
      | none =>
        refine bad (fun v hv hm => ?_) (by unfold plcR; rw [if_pos c, ef])
        rw [hw] at hv
        cases hv
        unfold mayN at hm
        rw [if_pos c] at hm
        obtain ⟨p, hp, rfl⟩ := List.mem_map.mp hm
        have := List.find?_eq_none.mp ef p hp
        simp at this
      | some p =>
        have hp := List.mem_of_find?_eq_some ef
        have hpw : txI p = w := by simpa using List.find?_some ef
        obtain ⟨t4, t5, q⟩ := step_ok (A := A) (b := b) (l0 := l0) (m := m) (l := l) (s4 := s4) (s5 := s5) hf hl ln c hp (by rw [hpw]; exact hw)
        have p15 := in15 hf hl hp
        obtain ⟨n, r, ih⟩ := plc_loop (A := A) (b := b) (l0 := l0) (m := m) hl rest (k + 1) (found ++ [p]) t4 t5 e2 (by omega) (fun v hv => by
          rcases List.mem_append.mp hv with hv | hv
          · exact hf v hv
          · have : v = p := by simpa using hv
            subst this
            simp at p15
            omega) (by rw [List.length_append]; simp at hn ⊢; omega)
        refine ⟨n + 1, r, ?_⟩
        have pe : plcR m l found (w :: rest) = plcR m l (found ++ [p]) rest := by
          rw [plcR, if_pos c, ef]
        unfold whileN
        rw [plT17_at, decide_eq_true hlt, pe]
        show (match plB17 A _ with | .nx ρ2 => whileN (plT17 A) (plB17 A) n ρ2 | .ct ρ2 => whileN (plT17 A) (plB17 A) n ρ2 | .bk ρ2 => .nx ρ2 | r => r) = _
        rw [q]
        dsimp only
        rw [ih]
        cases er : plcR m l (found ++ [p]) rest with
        | inr fd => rfl
        | inl j =>
          have ge := plcR_ge er
          rw [List.length_append] at ge
          have e3 : k + 1 + (j - (found ++ [p]).length) = k + (j - found.length) := by rw [List.length_append]; simp at ge ⊢; omega
          dsimp only
          rw [e3]
    · refine bad (fun v hv hm => ?_) (by unfold plcR; rw [if_neg c])
      unfold mayN at hm
      rw [if_neg c] at hm
      cases hm
end Lt

/-! # LineReader.places, its spec -/
namespace Lt
open PySem PySem.Spec L2
open Classical in
noncomputable def f_LR_places (A : Ads) : Fs := fun as => match as with
  | [.own o, .val (.int m), .val (.int l)] => match deLR A o with
    | some (l0, ws, k) => if k ≤ ws.length ∧ ws.length ≤ 90 ∧ 0 ≤ l ∧ l ≤ 5 then match plcR m l [] (ws.drop k) with
        | .inr fd => .ok (.val (.tup (fd.map .int))) [.own (lrO A l0 ws ws.length), .val (.int m), .val (.int l)]
        | .inl j => noText A l0 (k + j) [.own (lrO A l0 ws (k + j)), .val (.int m), .val (.int l)]
      else .stuck
    | none => .stuck
  | _ => .stuck
theorem lenx_LR_places (A : Ads) : ∀ as, f_LR_places A as ≠ .stuck → as.length = 3 := by
  intro as h
  unfold f_LR_places at h
  split at h
  · rfl
  · exact absurd rfl h
noncomputable def gb_LineReader_places (A : Ads) : Rho → Fl :=
  sSeq (sSet 3 (eTup (aNil))) (sSeq (sWhile (eTest (eBin ltD (eFldO 0 A.CLineReader "spot") (eCall lenD (aCons (eFldO 0 A.CLineReader "row") (aNil))))) (sSeq (sSet 4 (eBin addD (eCall sumA (aCons (eSlice (eVar 3) (oSome (eUn negD (eC (.int 1)))) (oNone)) (aNil))) (eC (.int 1)))) (sSeq (sSet 5 (eIf (eTest (eBin ltD (eCall lenD (aCons (eVar 3) (aNil))) (eVar 1))) (eLcQ [6] (iRng2D (aCons (eVar 4) (aCons (eBin addD (eVar 2) (eC (.int 1))) (aNil)))) (gSet 6) (tYesD) (eCall strD (aCons (eVar 6) (aNil)))) (eLst (aNil)))) (sSet 3 (eBin addD (eVar 3) (eTup (aCons (eCall intSD (aCons (eMeth 0 A.CLineReader "one_of" (f_LR_one_of A) (arVal (eVar 5) (arNil))) (aNil))) (aNil)))))))) (sRet (eVar 3)))
theorem gb_places_is (A : Ads) : gb_LineReader_places A = sSeq (sSet 3 (eTup (aNil))) (sSeq (sWhile (plT17 A) (plB17 A)) (sRet (eVar 3))) := rfl
theorem eq_LR_places (A : Ads) : ∀ as, f_LR_places A as ≠ .stuck → Lt.fin as (gb_LineReader_places A (rho0 7 as)) = f_LR_places A as := by
  intro as h
  unfold f_LR_places at h ⊢
  split at h
  · rename_i o m l
    cases e : deLR A o with
    | none => rw [e] at h; exact absurd rfl h
    | some t =>
      obtain ⟨l0, ws, k⟩ := t
      have := deLR_is e
      subst this
      simp only [deLR_lr] at h ⊢
      split at h
      · rename_i hz
        rw [if_pos hz]
        obtain ⟨hk, hw, hl⟩ := hz
        obtain ⟨n, r, w⟩ := plc_loop (A := A) (b := some 0) (l0 := l0) (m := m) (l := l) (ws := ws) hl (ws.drop k) k [] .no .no rfl hk (fun p hp => by cases hp) (by rw [List.length_drop]; simp; omega)
        rw [gb_places_is]
        cases ep : plcR m l [] (ws.drop k) with
        | inr fd =>
          rw [ep] at w
          dsimp only at w
          have wi := while_is n w (by intro z; cases z)
          simp only [List.map_nil] at wi
          generalize plT17 A = T at *
          generalize plB17 A = B at *
          simp [rho0, ent, wi, Lt.fin, outs]
        | inl j =>
          rw [ep] at w
          dsimp only at w
          have wi := while_is n w (by intro z; cases z)
          simp only [List.map_nil, List.length_nil, Nat.sub_zero] at wi
          generalize plT17 A = T at *
          generalize plB17 A = B at *
          unfold noText
          simp [rho0, ent, wi, Lt.fin, outs]
      · exact absurd rfl h
  · exact absurd rfl h
end Lt

/-! # The words of rising numbers are read back -/
namespace Lt
open PySem PySem.Spec L2
theorem find_tx {lo hi q : Int} (h1 : 1 ≤ lo) (h2 : hi ≤ 6) (hq : lo ≤ q ∧ q < hi) : (rng lo hi).find? (fun p => decide (txI p = txI q)) = some q := by
  have m15 : ∀ p, lo ≤ p → p < hi → p ∈ ([1, 2, 3, 4, 5] : List Int) := fun p a b => by
    have : p = 1 ∨ p = 2 ∨ p = 3 ∨ p = 4 ∨ p = 5 := by omega
    rcases this with rfl | rfl | rfl | rfl | rfl <;> decide
  cases e : (rng lo hi).find? (fun p => decide (txI p = txI q)) with
  | none =>
    have := List.find?_eq_none.mp e q (mem_rng.mpr hq)
    simp at this
  | some p =>
    have hp := mem_rng.mp (List.mem_of_find?_eq_some e)
    have ht : txI p = txI q := by simpa using List.find?_some e
    rw [txI_inj p (m15 p hp.1 hp.2) q (m15 q hq.1 hq.2) ht]
theorem plcR_back {m l : Int} (hl : l ≤ 5) : ∀ (rest found : List Int), ((found.length : Int) + (rest.length : Int) ≤ m) → 0 ≤ last0 found → (∀ p ∈ rest, last0 found < p ∧ p ≤ l) → rest.Pairwise (· < ·) → plcR m l found (rest.map txI) = .inr (found ++ rest)
  | [], found, _, _, _, _ => by simp [plcR]
  | q :: rest, found, hm, h0, hb, hp => by
    obtain ⟨p1, p2⟩ := List.pairwise_cons.mp hp
    have hq := hb q List.mem_cons_self
    rw [List.map_cons, plcR, if_pos (by simp at hm; omega), find_tx (by omega) (by omega) ⟨by omega, by omega⟩]
    dsimp only
    have e : last0 (found ++ [q]) = q := by unfold last0; simp
    rw [plcR_back hl rest (found ++ [q]) (by rw [List.length_append]; simp at hm ⊢; omega) (by rw [e]; omega) (fun p hp' => by rw [e]; exact ⟨p1 p hp', (hb p (List.mem_cons_of_mem _ hp')).2⟩) p2]
    simp
end Lt

/-! # A line with more spaces -/
namespace Lt
open PySem PySem.Spec L2
def wideW : Rw → List Str → List Str × Rw
  | r, [] => ([], r)
  | r, w :: ws => ((w ++ repS spS (taken r 3).1) :: (wideW (taken r 3).2 ws).1, (wideW (taken r 3).2 ws).2)
def wideR (r : Rw) (line : Str) : Str × Rw := (repS spS (taken (wideW r (Txt.split line spS)).2 3).1 ++ Txt.join spS (wideW r (Txt.split line spS)).1, (taken (wideW r (Txt.split line spS)).2 3).2)
def okLine (line : Str) : Prop := line.length ≤ 10000 ∧ (Txt.split line spS).length ≤ 100 ∧ ∀ w ∈ Txt.split line spS, w.length ≤ 100
open Classical in
noncomputable def f__law_wide : Fs := fun as => match as with
  | [.own (.lst l), .val (.str line)] => match deRow l with
    | some r => if r.Ok ∧ okLine line then .ok (.val (.str (wideR r line).1)) [.own (.lst (wideR r line).2.l), .val (.str line)] else .stuck
    | none => .stuck
  | _ => .stuck
theorem lenx__law_wide : ∀ as, f__law_wide as ≠ .stuck → as.length = 2 := by
  intro as h
  unfold f__law_wide at h
  split at h
  · rfl
  · exact absurd rfl h
theorem law_wide_ok {r : Rw} {line : Str} (h : r.Ok) (h1 : okLine line) : f__law_wide [.own (.lst r.l), .val (.str line)] = .ok (.val (.str (wideR r line).1)) [.own (.lst (wideR r line).2.l), .val (.str line)] := by
  unfold f__law_wide
  simp [h, h1]
theorem repS3 : ∀ u : Int, 0 ≤ u → u < 3 → (repS spS u).length ≤ 2 ∧ repS spS u = SX.S (List.replicate u.toNat 32) := by
  intro u h1 h2
  have : u = 0 ∨ u = 1 ∨ u = 2 := by omega
  rcases this with rfl | rfl | rfl <;> decide +kernel
theorem mul_sp {u : Int} (h1 : 0 ≤ u) (h2 : u < 3) : mulSD (.str spS) (.int u) = some (.str (repS spS u)) := by
  unfold mulSD
  dsimp only
  have sp : spS.length = 1 := by decide +kernel
  rw [if_pos ⟨⟨h1, by omega⟩, by omega, size_le (by have := (repS3 u h1 h2).1; omega)⟩]
theorem add_str {a b : Str} (h : a.length + b.length ≤ 1000000) : addD (.str a) (.str b) = some (.str (a ++ b)) := by
  unfold addD
  dsimp only
  rw [if_pos (size_le (by omega))]
theorem len_cat (a b : Str) : (a ++ b).length = a.length + b.length := by
  have h := congrArg List.length (TL.tl_append a b)
  rw [List.length_append] at h
  rw [TL.len_tl, TL.len_tl a, TL.len_tl b]
  exact h
theorem wideW_ok : ∀ (ws : List Str) (r : Rw), r.Ok → (wideW r ws).2.Ok ∧ (wideW r ws).1.length = ws.length
  | [], r, h => ⟨h, rfl⟩
  | w :: ws, r, h => by
    obtain ⟨t1, t2, t3, t4⟩ := taken_ok h (k := 3) (by decide)
    obtain ⟨q1, q2⟩ := wideW_ok ws _ t1
    unfold wideW
    exact ⟨q1, by simp [q2]⟩
theorem wideW_len : ∀ (ws : List Str) (r : Rw), r.Ok → (∀ w ∈ ws, w.length ≤ 100) → ∀ v ∈ (wideW r ws).1, v.length ≤ 102
  | [], r, h, _ => fun v hv => by cases hv
  | w :: ws, r, h, hw => by
    obtain ⟨t1, t2, t3, t4⟩ := taken_ok h (k := 3) (by decide)
    intro v hv
    unfold wideW at hv
    rcases List.mem_cons.mp hv with rfl | hv
    · rw [len_cat]
      have := (repS3 _ t2 t3).1
      have := hw w List.mem_cons_self
      omega
    · exact wideW_len ws _ t1 (fun w h => hw w (List.mem_cons_of_mem _ h)) v hv
theorem wide_lc {s1 s2 : Lt.S} {b : Option Nat} : ∀ (ws : List Str) (acc : List D) (r : Rw) (s3 : Lt.S), r.Ok → (∀ w ∈ ws, w.length ≤ 100) → acc.length + ws.length ≤ 1000 →
    lcD [3] (gSet 3) tYesD (eBin addD (eVar 3) (eBin mulSD (eC (.str (PySem.Str.ofString " "))) (eFnO f__law_taken (arSlot 0 (arVal (eC (.int 3)) (arNil)))))) (ws.map .str) acc [.own b (.lst r.l), s1, s2, s3] =
      .ok (.lst (acc ++ (wideW r ws).1.map .str)) [.own b (.lst (wideW r ws).2.l), s1, s2, .no]
  | [], acc, r, s3, h, _, _ => by simp [lcD, clr, wideW]
  | w :: ws, acc, r, s3, h, hw, hl => by
    obtain ⟨t1, t2, t3, t4⟩ := taken_ok h (k := 3) (by decide)
    have a1 := law_taken_ok h (k := 3) (by decide) (by decide)
    have ih := wide_lc (s1 := s1) (s2 := s2) (b := b) ws (acc ++ [.str (w ++ repS spS (taken r 3).1)]) (taken r 3).2 (.val (.str w)) t1 (fun v hv => hw v (List.mem_cons_of_mem _ hv)) (by simp at hl ⊢; omega)
    unfold wideW
    generalize taken r 3 = t at *
    obtain ⟨u, r1⟩ := t
    dsimp only at t1 t2 t3 a1 ih ⊢
    have m := mul_sp t2 t3
    have ad := add_str (a := w) (b := repS spS u) (by have := hw w List.mem_cons_self; have := (repS3 u t2 t3).1; omega)
    have al : acc.length < sizeLine := by rw [sizeLine_eq]; simp at hl; omega
    unfold spS at m ad ih ⊢
    rw [List.map_cons, lcD]
    simp [clr, a1, m, ad, al]
    simpa using ih
noncomputable def gb__law_wide : Rho → Fl :=
  sSeq (sSet 2 (eLcQ [3] (iSeq (eM1 splitD (eVar 1) (eC (.str (PySem.Str.ofString " "))))) (gSet 3) (tYesD) (eBin addD (eVar 3) (eBin mulSD (eC (.str (PySem.Str.ofString " "))) (eFnO f__law_taken (arSlot 0 (arVal (eC (.int 3)) (arNil)))))))) (sRet (eBin addD (eBin mulSD (eC (.str (PySem.Str.ofString " "))) (eFnO f__law_taken (arSlot 0 (arVal (eC (.int 3)) (arNil))))) (eM1 joinD (eC (.str (PySem.Str.ofString " "))) (eVar 2))))
theorem join_ok {a : Str} {ys : List Str} (h : (ys.map (·.length)).sum + ys.length * a.length ≤ 16777216) : joinD (.str a) (.lst (ys.map .str)) = some (.str (Txt.join a ys)) := by
  unfold joinD
  dsimp only
  rw [asStrs_map]
  dsimp only
  rw [if_pos h]
theorem sum_le {n : Nat} : ∀ {ys : List Str}, (∀ y ∈ ys, y.length ≤ n) → (ys.map (·.length)).sum ≤ ys.length * n
  | [], _ => by simp
  | y :: ys, h => by
    have := sum_le (ys := ys) fun z hz => h z (List.mem_cons_of_mem _ hz)
    have := h y List.mem_cons_self
    rw [List.map_cons, List.sum_cons, List.length_cons, Nat.add_mul]
    omega
theorem len_join (a : Str) : ∀ ys : List Str, (Txt.join a ys).length ≤ (ys.map (·.length)).sum + ys.length * a.length := by
  intro ys
  rw [TL.join_eq]
  have key : ∀ ys : List Str, (PySem.Str.join a ys).length ≤ (ys.map (·.length)).sum + ys.length * a.length := by
    intro ys
    induction ys with
    | nil => exact Nat.zero_le _
    | cons x r ih =>
      cases r with
      | nil => show x.length ≤ _; simp
      | cons z r =>
        show (x ++ a ++ PySem.Str.join a (z :: r)).length ≤ _
        rw [len_cat, len_cat, List.map_cons, List.sum_cons, List.length_cons, Nat.add_mul]
        omega
  exact key ys
theorem eq__law_wide : ∀ as, f__law_wide as ≠ .stuck → Lt.fin as (gb__law_wide (rho0 4 as)) = f__law_wide as := by
  intro as h
  unfold f__law_wide at h ⊢
  split at h
  · rename_i l line
    cases e : deRow l with
    | none => rw [e] at h; exact absurd rfl h
    | some r =>
      have := deRow_is e
      subst this
      simp only [deRow_l] at h ⊢
      split at h
      · rename_i hz
        rw [if_pos hz]
        obtain ⟨hr, h1, h2, h3⟩ := hz
        have lc := wide_lc (s1 := .val (.str line)) (s2 := .no) (b := some 0) (Txt.split line spS) [] r .no hr h3 (by simp; omega)
        have sp := split_ok (a := line) (b := spS) (by decide +kernel) h1
        obtain ⟨w1, w2⟩ := wideW_ok (Txt.split line spS) r hr
        have w3 := wideW_len (Txt.split line spS) r hr h3
        unfold wideR
        generalize wideW r (Txt.split line spS) = W at *
        obtain ⟨ws, r1⟩ := W
        dsimp only at w1 w2 w3 lc ⊢
        obtain ⟨t1, t2, t3, t4⟩ := taken_ok w1 (k := 3) (by decide)
        have a1 := law_taken_ok w1 (k := 3) (by decide) (by decide)
        generalize taken r1 3 = t at *
        obtain ⟨u, r2⟩ := t
        dsimp only at t1 t2 t3 a1 ⊢
        have m := mul_sp t2 t3
        have sl : spS.length = 1 := by decide +kernel
        have sm := sum_le w3
        have jb : (ws.map (·.length)).sum + ws.length * spS.length ≤ 20000 := by rw [sl]; omega
        have j := join_ok (a := spS) (ys := ws) (by omega)
        have jl := len_join spS ws
        have ad := add_str (a := repS spS u) (b := Txt.join spS ws) (by have := (repS3 u t2 t3).1; omega)
        rw [List.nil_append] at lc
        unfold gb__law_wide
        unfold spS at *
        generalize Txt.split line (PySem.Str.ofString " ") = SPL at *
        generalize (ws.map D.str) = WS at *
        simp [rho0, ent, sp, lc, a1, m, j, ad, Lt.fin, outs]
      · exact absurd rfl h
  · exact absurd rfl h
end Lt

/-! # What stands in a text's lines -/
namespace Lt
open PySem PySem.Spec L2
def rowL (l : List Nat) : List (List Nat) := (TL.spl [32] 0 [] l).filter fun w => !decide (w = [])
theorem spl1 (acc : List Nat) (c : Nat) (r : List Nat) : TL.spl [32] 0 acc (c :: r) = if c = 32 then acc :: TL.spl [32] 0 [] r else TL.spl [32] 0 (acc ++ [c]) r := by
  by_cases h : c = 32
  · subst h
    rw [if_pos rfl, TL.spl_hit (show TL.pre [32] (32 :: r) = true from TL.pre_self [32] r)]
    rfl
  · rw [if_neg h, TL.spl_miss (TL.pre_of_head _ _ h)]
theorem spl_app (b : List Nat) : ∀ (a acc : List Nat), TL.spl [32] 0 acc (a ++ 32 :: b) = TL.spl [32] 0 acc a ++ TL.spl [32] 0 [] b
  | [], acc => by rw [List.nil_append, spl1, if_pos rfl, TL.spl_nil]; rfl
  | c :: a, acc => by
    rw [List.cons_append, spl1, spl1]
    by_cases h : c = 32
    · rw [if_pos h, if_pos h, spl_app b a []]; rfl
    · rw [if_neg h, if_neg h, spl_app b a (acc ++ [c])]
theorem rowL_app (a b : List Nat) : rowL (a ++ 32 :: b) = rowL a ++ rowL b := by unfold rowL; rw [spl_app, List.filter_append]
theorem rowL_nil : rowL [] = [] := by decide
theorem rowL_word {w : List Nat} (h : 32 ∉ w) (h2 : w ≠ []) : rowL w = [w] := by
  unfold rowL
  rw [TL.spl_last1 h]
  simp [h2]
theorem rowL_sp (x : List Nat) : ∀ k : Nat, rowL (List.replicate k 32 ++ x) = rowL x
  | 0 => by simp
  | k + 1 => by
    have := rowL_app [] (List.replicate k 32 ++ x)
    rw [List.replicate_succ, List.cons_append]
    rw [List.nil_append, rowL_nil, List.nil_append] at this
    rw [this, rowL_sp x k]
theorem rowL_spr (x : List Nat) (k : Nat) : rowL (x ++ List.replicate k 32) = rowL x := by
  cases k with
  | zero => simp
  | succ k =>
    rw [List.replicate_succ, rowL_app]
    have := rowL_sp [] k
    rw [List.append_nil] at this
    rw [this, rowL_nil, List.append_nil]
theorem rowL_join : ∀ ps : List (List Nat), rowL (TL.joinL [32] ps) = ps.flatMap rowL
  | [] => by simp [TL.joinL, rowL_nil]
  | [p] => by simp [TL.joinL]
  | p :: q :: r => by
    show rowL (p ++ ([32] ++ TL.joinL [32] (q :: r))) = _
    rw [show p ++ ([32] ++ TL.joinL [32] (q :: r)) = p ++ 32 :: TL.joinL [32] (q :: r) from rfl, rowL_app, rowL_join (q :: r)]
    simp [List.flatMap_cons]
theorem tl_sp : TL.tl spS = [32] := by decide +kernel
theorem tl_nl : TL.tl nlS = [10] := by decide +kernel
theorem tl_no : TL.tl noS = [] := by decide +kernel
theorem spl_map (line : Str) : (Txt.split line spS).map TL.tl = TL.spl [32] 0 [] (TL.tl line) := by
  have := TL.split_spl line spS (by rw [tl_sp]; simp) (TL.kind_ok (by decide +kernel))
  rw [tl_sp] at this
  exact this
theorem rowOf_tl (line : Str) : (rowOf line).map TL.tl = rowL (TL.tl line) := by
  unfold rowOf rowL
  rw [← spl_map, List.filter_map]
  congr 1
  refine List.filter_congr fun w _ => ?_
  show (!decide (w = noS)) = !decide (TL.tl w = [])
  congr 2
  refine propext ⟨fun z => by rw [z, tl_no], fun z => TL.ext_tl (by rw [z, tl_no])⟩
/-! ### good texts, words -/
def gd (x : Str) : Prop := ∀ c ∈ TL.tl x, c < 128 ∧ c ≠ 10
structure okWord (w : Str) : Prop where
  gd : gd w
  sp : 32 ∉ TL.tl w
  ne : TL.tl w ≠ []
  len : w.length ≤ 10
theorem gd_cat {a b : Str} (h : gd a) (h2 : gd b) : gd (a ++ b) := by
  intro c hc
  rw [TL.tl_append] at hc
  rcases List.mem_append.mp hc with q | q
  · exact h c q
  · exact h2 c q
theorem mem_joinL {s : List Nat} {c : Nat} : ∀ {ps : List (List Nat)}, c ∈ TL.joinL s ps → c ∈ s ∨ ∃ p ∈ ps, c ∈ p
  | [], h => by cases h
  | [p], h => .inr ⟨p, List.mem_cons_self, h⟩
  | p :: q :: r, h => by
    have h' : c ∈ p ++ (s ++ TL.joinL s (q :: r)) := h
    rcases List.mem_append.mp h' with h1 | h1
    · exact .inr ⟨p, List.mem_cons_self, h1⟩
    · rcases List.mem_append.mp h1 with h2 | h2
      · exact .inl h2
      · rcases mem_joinL h2 with h3 | ⟨p', h3, h4⟩
        · exact .inl h3
        · exact .inr ⟨p', List.mem_cons_of_mem _ h3, h4⟩
theorem tl_joinT (s : Str) (ys : List Str) : TL.tl (Txt.join s ys) = TL.joinL (TL.tl s) (ys.map TL.tl) := by rw [TL.join_eq, TL.tl_join]
theorem gd_join {ys : List Str} (h : ∀ y ∈ ys, gd y) : gd (Txt.join spS ys) := by
  intro c hc
  rw [tl_joinT, tl_sp] at hc
  rcases mem_joinL hc with q | ⟨p, q1, q2⟩
  · have : c = 32 := by simpa using q
    subst this
    decide
  · obtain ⟨y, hy, rfl⟩ := List.mem_map.mp q1
    exact h y hy c q2
theorem gd_rep {u : Int} (h1 : 0 ≤ u) (h2 : u < 3) : gd (repS spS u) := by
  rw [(repS3 u h1 h2).2]
  intro c hc
  have hc' : c ∈ List.replicate u.toNat 32 := hc
  have := (List.mem_replicate.mp hc').2
  subst this
  decide
theorem split_words {ws : List Str} (hne : ws ≠ []) (h : ∀ w ∈ ws, okWord w) : Txt.split (Txt.join spS ws) spS = ws :=
  TL.split_join tl_sp (by decide +kernel) hne fun w hw => (h w hw).sp
theorem flat_words : ∀ {ws : List Str}, (∀ w ∈ ws, okWord w) → (ws.map TL.tl).flatMap rowL = ws.map TL.tl
  | [], _ => rfl
  | w :: ws, h => by
    rw [List.map_cons, List.flatMap_cons, flat_words fun v hv => h v (List.mem_cons_of_mem _ hv), rowL_word (h w List.mem_cons_self).sp (h w List.mem_cons_self).ne]
    rfl
theorem rowOf_words {ws : List Str} (h : ∀ w ∈ ws, okWord w) : rowOf (Txt.join spS ws) = ws := by
  refine TL.map_tl_inj ?_
  rw [rowOf_tl, tl_joinT, tl_sp, rowL_join, flat_words h]
theorem wideW_row : ∀ {ws : List Str} {r : Rw}, r.Ok → (∀ w ∈ ws, okWord w) → ((wideW r ws).1.map TL.tl).flatMap rowL = ws.map TL.tl ∧ ∀ v ∈ (wideW r ws).1, gd v
  | [], r, _, _ => ⟨rfl, fun v hv => by cases hv⟩
  | w :: ws, r, h, hw => by
    obtain ⟨t1, t2, t3, t4⟩ := taken_ok h (k := 3) (by decide)
    obtain ⟨ih1, ih2⟩ := wideW_row (ws := ws) t1 fun v hv => hw v (List.mem_cons_of_mem _ hv)
    have ow := hw w List.mem_cons_self
    unfold wideW
    refine ⟨?_, fun v hv => ?_⟩
    · rw [List.map_cons, List.flatMap_cons, ih1, TL.tl_append, (repS3 _ t2 t3).2, TL.tl_mk, rowL_spr, rowL_word ow.sp ow.ne]
      rfl
    · rcases List.mem_cons.mp hv with rfl | hv
      · exact gd_cat ow.gd (gd_rep t2 t3)
      · exact ih2 v hv
theorem wide_row {ws : List Str} {r : Rw} (hr : r.Ok) (hne : ws ≠ []) (h : ∀ w ∈ ws, okWord w) (hl : ws.length ≤ 20) :
    okLine (Txt.join spS ws) ∧ rowOf (wideR r (Txt.join spS ws)).1 = ws ∧ gd (wideR r (Txt.join spS ws)).1 ∧ (wideR r (Txt.join spS ws)).1.length ≤ 2100 ∧ (wideR r (Txt.join spS ws)).2.Ok := by
  have sp := split_words hne h
  have sl : spS.length = 1 := by decide +kernel
  have wl : ∀ w ∈ ws, w.length ≤ 100 := fun w hw => by have := (h w hw).len; omega
  have ok : okLine (Txt.join spS ws) := by
    unfold okLine
    rw [sp]
    refine ⟨?_, by omega, wl⟩
    have := len_join spS ws
    have := sum_le wl
    rw [sl] at *
    omega
  refine ⟨ok, ?_⟩
  unfold wideR
  rw [sp]
  obtain ⟨w1, w2⟩ := wideW_ok ws r hr
  obtain ⟨w4, w5⟩ := wideW_row hr h
  have w3 := wideW_len ws r hr wl
  obtain ⟨t1, t2, t3, t4⟩ := taken_ok w1 (k := 3) (by decide)
  dsimp only
  refine ⟨?_, gd_cat (gd_rep t2 t3) (gd_join w5), ?_, t1⟩
  · refine TL.map_tl_inj ?_
    rw [rowOf_tl, TL.tl_append, (repS3 _ t2 t3).2, TL.tl_mk, rowL_sp, tl_joinT, tl_sp, rowL_join, w4]
  · rw [len_cat]
    have := (repS3 _ t2 t3).1
    have := len_join spS (wideW r ws).1
    have := sum_le w3
    rw [w2] at *
    rw [sl] at *
    omega
/-! ### lines of a text -/
theorem spl_len (S : List Nat) : ∀ (l : List Nat) (k : Nat) (acc : List Nat), (TL.spl S k acc l).length ≤ l.length + 1
  | [], k, acc => by rw [TL.spl_nil]; simp
  | c :: r, 0, acc => by
    show (if TL.pre S (c :: r) = true then acc :: TL.spl S (S.length - 1) [] r else TL.spl S 0 (acc ++ [c]) r).length ≤ _
    split
    · have := spl_len S r (S.length - 1) []
      simp; omega
    · have := spl_len S r 0 (acc ++ [c])
      simp; omega
  | c :: r, k + 1, acc => by
    show (TL.spl S k acc r).length ≤ _
    have := spl_len S r k acc
    simp; omega
theorem spl_mem (S : List Nat) : ∀ (l : List Nat) (k : Nat) (acc : List Nat), ∀ p ∈ TL.spl S k acc l, ∀ c ∈ p, c ∈ acc ∨ c ∈ l
  | [], k, acc, p, hp, c, hc => by rw [TL.spl_nil] at hp; simp at hp; subst hp; exact .inl hc
  | d :: r, 0, acc, p, hp, c, hc => by
    have hp' : p ∈ (if TL.pre S (d :: r) = true then acc :: TL.spl S (S.length - 1) [] r else TL.spl S 0 (acc ++ [d]) r) := hp
    split at hp'
    · rcases List.mem_cons.mp hp' with rfl | hp'
      · exact .inl hc
      · rcases spl_mem S r _ [] p hp' c hc with q | q
        · cases q
        · exact .inr (List.mem_cons_of_mem _ q)
    · rcases spl_mem S r 0 _ p hp' c hc with q | q
      · rcases List.mem_append.mp q with q | q
        · exact .inl q
        · have : c = d := by simpa using q
          subst this
          exact .inr List.mem_cons_self
      · exact .inr (List.mem_cons_of_mem _ q)
  | d :: r, k + 1, acc, p, hp, c, hc => by
    rcases spl_mem S r k acc p hp c hc with q | q
    · exact .inl q
    · exact .inr (List.mem_cons_of_mem _ q)
theorem gd_line {line : Str} (h : gd line) : (Txt.split line spS).length ≤ line.length + 1 ∧ ∀ w ∈ Txt.split line spS, PyData.strOk w = true := by
  refine ⟨?_, fun w hw => ?_⟩
  · have := congrArg List.length (spl_map line)
    rw [List.length_map] at this
    rw [this, TL.len_tl]
    exact spl_len _ _ _ _
  · have hm : TL.tl w ∈ (Txt.split line spS).map TL.tl := List.mem_map.mpr ⟨w, hw, rfl⟩
    rw [spl_map] at hm
    unfold PyData.strOk
    rw [← Array.all_toList, List.all_eq_true]
    intro c hc
    rcases spl_mem _ _ _ _ _ hm c hc with q | q
    · cases q
    · have := (h c q).1
      exact decide_eq_true (by omega)
theorem text_ok {lines : List Str} (hne : lines ≠ []) (hn : lines.length ≤ 100) (h : ∀ line ∈ lines, gd line ∧ line.length ≤ 9000) (hs : (lines.map (·.length)).sum ≤ 9000) : okText (Txt.join nlS lines) ∧ rowsOf (Txt.join nlS lines) = lines.map rowOf := by
  have sp : Txt.split (Txt.join nlS lines) nlS = lines := TL.split_join tl_nl (by decide +kernel) hne fun w hw hc => ((h w hw).1 10 hc).2 rfl
  have nl : nlS.length = 1 := by decide +kernel
  refine ⟨⟨?_, by rw [sp]; omega, fun line hl => ?_⟩, by unfold rowsOf; rw [sp]⟩
  · have := len_join nlS lines
    rw [nl] at this
    omega
  · rw [sp] at hl
    obtain ⟨g1, g2⟩ := gd_line (h line hl).1
    have := (h line hl).2
    exact ⟨by omega, by omega, g2⟩
end Lt

/-! # read with its refusals: the pieces -/
namespace Lt
open PySem PySem.Spec L2
def sFront : Str := PySem.Str.ofString "front"
def sBack : Str := PySem.Str.ofString "back"
def sRule : Str := PySem.Str.ofString "rule"
theorem last0_snoc (l : List Int) (p : Int) : last0 (l ++ [p]) = p := by unfold last0; simp
theorem pw_le {l : List Int} (h : l.Pairwise (· < ·)) {v : Int} (hv : v ∈ l) : v ≤ last0 l := asc_last (asc_sub (List.Sublist.refl _) h) v hv
theorem plcR_ok {m l : Int} (hl : l ≤ 5) : ∀ {rest : List Str} {found fd : List Int}, plcR m l found rest = .inr fd → (found.length : Int) ≤ m → found.Pairwise (· < ·) → (∀ p ∈ found, 1 ≤ p ∧ p ≤ l) → (fd.length : Int) ≤ m ∧ fd.Pairwise (· < ·) ∧ ∀ p ∈ fd, 1 ≤ p ∧ p ≤ l
  | [], found, fd, h, h1, h2, h3 => by cases h; exact ⟨h1, h2, h3⟩
  | w :: rest, found, fd, h, h1, h2, h3 => by
    unfold plcR at h
    split at h
    · rename_i c
      split at h
      · rename_i p ep
        have hp := mem_rng.mp (List.mem_of_find?_eq_some ep)
        have l0 : 0 ≤ last0 found := last0_pos fun v hv => (h3 v hv).1
        refine plcR_ok hl h (by rw [List.length_append]; simp; omega) ?_ ?_
        · refine List.pairwise_append.mpr ⟨h2, by simp, fun a ha b hb => ?_⟩
          have : b = p := by simpa using hb
          subst this
          have := pw_le h2 ha
          omega
        · intro v hv
          rcases List.mem_append.mp hv with hv | hv
          · exact h3 v hv
          · have : v = p := by simpa using hv
            subst this
            omega
      · cases h
    · cases h
theorem plcR_okF {ws : List Str} {f : List Int} (h : plcR 3 5 [] ws = .inr f) : okF f = true := by
  obtain ⟨h1, h2, h3⟩ := plcR_ok (by decide) h (by decide) .nil (fun p hp => by cases hp)
  unfold okF
  rw [placesB_ints, decide_eq_true h1, asc_sub (List.Sublist.refl _) h2, Bool.and_true, Bool.true_and]
  exact List.all_eq_true.mpr fun v hv => by simpa using h3 v hv
theorem plcR_okB {ws : List Str} {f : List Int} (h : plcR 2 4 [] ws = .inr f) : okB f = true := by
  obtain ⟨h1, h2, h3⟩ := plcR_ok (by decide) h (by decide) .nil (fun p hp => by cases hp)
  unfold okB
  rw [placesB_ints, decide_eq_true h1, asc_sub (List.Sublist.refl _) h2, Bool.and_true, Bool.true_and]
  exact List.all_eq_true.mpr fun v hv => by simpa using h3 v hv
/-! ### the reading of rows -/
def readX (rows : List (List Str)) : (Nat × Nat) ⊕ (List Int × List Int × Str) :=
  match rows[0]? with
  | some (h1 :: w1) => if h1 = sFront then match plcR 3 5 [] w1 with
    | .inl j => .inl (1, j + 2)
    | .inr f => match rows[1]? with
      | some (h2 :: w2) => if h2 = sBack then match plcR 2 4 [] w2 with
        | .inl j => .inl (2, j + 2)
        | .inr b => match rows[2]? with
          | some (h3 :: w3) => if h3 = sRule then match w3 with
            | [] => .inl (3, 2)
            | x :: rest => if isRule x = true then if rest = [] then if 3 < rows.length then .inl (4, 1) else .inr (f, b, x) else .inl (3, 3) else .inl (3, 2)
            else .inl (3, 1)
          | _ => .inl (3, 1)
        else .inl (2, 1)
      | _ => .inl (2, 1)
    else .inl (1, 1)
  | _ => .inl (1, 1)
def xText (A : Ads) (l w : Nat) : ResP := .exc A.CInvalidText ["word", "line"] [.int w, .int l]
open Classical in
noncomputable def f_read (A : Ads) : PFs := P1 fun d => match d with
  | .str t => if okText t ∧ (∀ ws ∈ rowsOf t, ws.length ≤ 80) then match readX (rowsOf t) with
    | .inr (f, b, x) => .ok (.val (dPlan A f b x))
    | .inl (l, w) => xText A l w
    else .stuck
  | _ => .stuck
theorem read_okX {A : Ads} {t : Str} {f b : List Int} {x : Str} (h : okText t) (h2 : ∀ ws ∈ rowsOf t, ws.length ≤ 80) (hr : readX (rowsOf t) = .inr (f, b, x)) : f_read A [.str t] = .ok (.val (dPlan A f b x)) := by
  unfold f_read P1
  dsimp only
  rw [if_pos ⟨h, h2⟩, hr]
theorem read_badX {A : Ads} {t : Str} {l w : Nat} (h : okText t) (h2 : ∀ ws ∈ rowsOf t, ws.length ≤ 80) (hr : readX (rowsOf t) = .inl (l, w)) : f_read A [.str t] = xText A l w := by
  unfold f_read P1
  dsimp only
  rw [if_pos ⟨h, h2⟩, hr]
/-! ### take, places -/
theorem tr_none {rows : List (List Str)} {k : Nat} : ((trF rows k).lookup (PySem.Str.ofString "take")).isNone = true := by
  have n1 : (PySem.Str.ofString "take" == PySem.Str.ofString "rows") = false := by decide +kernel
  have n2 : (PySem.Str.ofString "take" == PySem.Str.ofString "done") = false := by decide +kernel
  simp [trF, List.lookup_cons, n1, n2]
theorem lr_none2 {l : Int} {ws : List Str} {k : Nat} : ((lrF l ws k).lookup (PySem.Str.ofString "places")).isNone = true := by
  have n1 : (PySem.Str.ofString "places" == PySem.Str.ofString "line") = false := by decide +kernel
  have n2 : (PySem.Str.ofString "places" == PySem.Str.ofString "row") = false := by decide +kernel
  have n3 : (PySem.Str.ofString "places" == PySem.Str.ofString "spot") = false := by decide +kernel
  simp [lrF, List.lookup_cons, n1, n2, n3]
theorem take_ok {A : Ads} {rows : List (List Str)} {k : Nat} {head : Str} {ws : List Str} (h : rows[k]? = some (head :: ws)) : f_TR_take A [.own (trO A rows k), .val (.str head)] = .ok (.own (lrO A ((k : Int) + 1) (head :: ws) 1)) [.own (trO A rows (k + 1)), .val (.str head)] := by
  unfold f_TR_take
  simp only [deTR_tr, h]
  rw [if_pos (show (head :: ws)[0]? = some head from rfl)]
theorem oTake {A : Ads} {rows : List (List Str)} {k : Nat} {head : Str} {ws : List Str} {s0 : Lt.S} {r : Rho} (h : rows[k]? = some (head :: ws)) :
    oMeth 1 A.CTextReader "take" (f_TR_take A) (arVal (eC (.str head)) arNil) (s0 :: .own none (trO A rows k) :: r) = .ok (lrO A ((k : Int) + 1) (head :: ws) 1) (s0 :: .own none (trO A rows (k + 1)) :: r) := by
  have q := take_ok (A := A) h
  have i : insAt 1 A.CTextReader (s0 :: .own none (trO A rows k) :: r) = some (trF rows k) := by unfold insAt trO; simp
  unfold oMeth methR
  rw [i]
  dsimp only
  rw [if_pos tr_none]
  simp [q]
theorem take_bad {A : Ads} {rows : List (List Str)} {k : Nat} {head : Str} (hk : k ≤ rows.length) (h : ∀ ws, rows[k]? = some ws → ws[0]? ≠ some head) : ∃ k', f_TR_take A [.own (trO A rows k), .val (.str head)] = noText A ((k : Int) + 1) 0 [.own (trO A rows k'), .val (.str head)] := by
  unfold f_TR_take
  simp only [deTR_tr]
  cases e : rows[k]? with
  | none =>
    have := List.getElem?_eq_none_iff.mp e
    have ek : k = rows.length := by omega
    dsimp only
    rw [if_pos ek, ← ek]
    exact ⟨_, rfl⟩
  | some ws =>
    dsimp only
    rw [if_neg (h ws e)]
    exact ⟨_, rfl⟩
theorem oTake_bad {A : Ads} {rows : List (List Str)} {k : Nat} {head : Str} {s0 : Lt.S} {r : Rho} (hk : k ≤ rows.length) (h : ∀ ws, rows[k]? = some ws → ws[0]? ≠ some head) :
    ∃ s1, oMeth 1 A.CTextReader "take" (f_TR_take A) (arVal (eC (.str head)) arNil) (s0 :: .own none (trO A rows k) :: r) = .exc A.CInvalidText ["word", "line"] [.int 1, .int ((k : Int) + 1)] (s0 :: s1 :: r) := by
  obtain ⟨k', q⟩ := take_bad (A := A) hk h
  have i : insAt 1 A.CTextReader (s0 :: .own none (trO A rows k) :: r) = some (trF rows k) := by unfold insAt trO; simp
  unfold noText at q
  unfold oMeth methR
  rw [i]
  dsimp only
  rw [if_pos tr_none]
  refine ⟨.own none (trO A rows k'), ?_⟩
  simp [q]
theorem places_ok17 {A : Ads} {l0 m l : Int} {head : Str} {ws : List Str} {fd : List Int} (hw : ws.length ≤ 80) (hl : 0 ≤ l ∧ l ≤ 5) (h : plcR m l [] ws = .inr fd) : f_LR_places A [.own (lrO A l0 (head :: ws) 1), .val (.int m), .val (.int l)] = .ok (.val (.tup (fd.map .int))) [.own (lrO A l0 (head :: ws) (head :: ws).length), .val (.int m), .val (.int l)] := by
  unfold f_LR_places
  simp only [deLR_lr]
  rw [if_pos ⟨by simp, by simp; omega, hl⟩, List.drop_succ_cons, List.drop_zero, h]
theorem places_bad {A : Ads} {l0 m l : Int} {head : Str} {ws : List Str} {j : Nat} (hw : ws.length ≤ 80) (hl : 0 ≤ l ∧ l ≤ 5) (h : plcR m l [] ws = .inl j) : f_LR_places A [.own (lrO A l0 (head :: ws) 1), .val (.int m), .val (.int l)] = noText A l0 (1 + j) [.own (lrO A l0 (head :: ws) (1 + j)), .val (.int m), .val (.int l)] := by
  unfold f_LR_places
  simp only [deLR_lr]
  rw [if_pos ⟨by simp, by simp; omega, hl⟩, List.drop_succ_cons, List.drop_zero, h]
theorem ePlaces {A : Ads} {rows : List (List Str)} {k : Nat} {head : Str} {ws : List Str} {fd : List Int} {m l : Int} {s0 : Lt.S} {r : Rho} (h : rows[k]? = some (head :: ws)) (hw : ws.length ≤ 80) (hl : 0 ≤ l ∧ l ≤ 5) (hp : plcR m l [] ws = .inr fd) :
    eMethT A.CLineReader "places" (f_LR_places A) (oMeth 1 A.CTextReader "take" (f_TR_take A) (arVal (eC (.str head)) arNil)) (aCons (eC (.int m)) (aCons (eC (.int l)) aNil)) (s0 :: .own none (trO A rows k) :: r) = .ok (.tup (fd.map .int)) (s0 :: .own none (trO A rows (k + 1)) :: r) := by
  have q := places_ok17 (A := A) (l0 := (k : Int) + 1) (head := head) hw hl hp
  have n := lr_none2 (l := (k : Int) + 1) (ws := head :: ws) (k := 1)
  unfold eMethT
  rw [oTake h, bind_ok]
  unfold lrO at q ⊢
  dsimp only
  rw [if_pos ⟨rfl, n⟩]
  simp [q]
theorem ePlaces_bad {A : Ads} {rows : List (List Str)} {k : Nat} {head : Str} {ws : List Str} {j : Nat} {m l : Int} {s0 : Lt.S} {r : Rho} (h : rows[k]? = some (head :: ws)) (hw : ws.length ≤ 80) (hl : 0 ≤ l ∧ l ≤ 5) (hp : plcR m l [] ws = .inl j) :
    eMethT A.CLineReader "places" (f_LR_places A) (oMeth 1 A.CTextReader "take" (f_TR_take A) (arVal (eC (.str head)) arNil)) (aCons (eC (.int m)) (aCons (eC (.int l)) aNil)) (s0 :: .own none (trO A rows k) :: r) = .exc A.CInvalidText ["word", "line"] [.int ((j + 2 : Nat) : Int), .int ((k : Int) + 1)] (s0 :: .own none (trO A rows (k + 1)) :: r) := by
  have q := places_bad (A := A) (l0 := (k : Int) + 1) (head := head) hw hl hp
  have n := lr_none2 (l := (k : Int) + 1) (ws := head :: ws) (k := 1)
  have e : (((1 + j : Nat) : Int) + 1) = ((j + 2 : Nat) : Int) := by omega
  unfold noText at q
  rw [e] at q
  unfold eMethT
  rw [oTake h, bind_ok]
  unfold lrO at q ⊢
  dsimp only
  rw [if_pos ⟨rfl, n⟩]
  simp only [rd_aCons, rd_c, rd_aNil, bind_ok, List.map_cons, List.map_nil, q]
theorem ePlaces_no {A : Ads} {rows : List (List Str)} {k : Nat} {head : Str} {m l : Int} {s0 : Lt.S} {r : Rho} (hk : k ≤ rows.length) (h : ∀ ws, rows[k]? = some ws → ws[0]? ≠ some head) :
    ∃ s1, eMethT A.CLineReader "places" (f_LR_places A) (oMeth 1 A.CTextReader "take" (f_TR_take A) (arVal (eC (.str head)) arNil)) (aCons (eC (.int m)) (aCons (eC (.int l)) aNil)) (s0 :: .own none (trO A rows k) :: r) = .exc A.CInvalidText ["word", "line"] [.int 1, .int ((k : Int) + 1)] (s0 :: s1 :: r) := by
  obtain ⟨s1, q⟩ := oTake_bad (A := A) (s0 := s0) (r := r) hk h
  refine ⟨s1, ?_⟩
  unfold eMethT
  rw [q, bind_exc]
end Lt

/-! # read with its refusals -/
namespace Lt
open PySem PySem.Spec L2
noncomputable def gb_read (A : Ads) : Rho → Fl :=
  sSeq (sSetO 1 (oMake (f_TR_init A) A.CTextReader (aCons (eVar 0) (aNil)))) (sSeq (sSet 2 (eMethT A.CLineReader "places" (f_LR_places A) (oMeth 1 A.CTextReader "take" (f_TR_take A) (arVal (eC (.str (PySem.Str.ofString "front"))) (arNil))) (aCons (eC (.int 3)) (aCons (eC (.int 5)) (aNil))))) (sSeq (sSet 3 (eMethT A.CLineReader "places" (f_LR_places A) (oMeth 1 A.CTextReader "take" (f_TR_take A) (arVal (eC (.str (PySem.Str.ofString "back"))) (arNil))) (aCons (eC (.int 2)) (aCons (eC (.int 4)) (aNil))))) (sSeq (sSetO 4 (oMeth 1 A.CTextReader "take" (f_TR_take A) (arVal (eC (.str (PySem.Str.ofString "rule"))) (arNil)))) (sSeq (sSet 5 (eMeth 4 A.CLineReader "one_of" (f_LR_one_of A) (arVal (eC dRULES) (arNil)))) (sSeq (sExpr (eMeth 4 A.CLineReader "end" (f_LR_end A) (arNil))) (sSeq (sIf (eTest (eBin ltD (eFldO 1 A.CTextReader "done") (eCall lenD (aCons (eFldO 1 A.CTextReader "rows") (aNil))))) (sRaise A.CInvalidText ["line", "word"] (aCons (eBin addD (eFldO 1 A.CTextReader "done") (eC (.int 1))) (aCons (eC (.int 1)) (aNil)))) (sNext)) (sRet (eFrz (oMake (f_Plan2 A) A.CPlan (aCons (eVar 2) (aCons (eVar 3) (aCons (eVar 5) (aNil)))))))))))))
theorem lr_none3 {l : Int} {ws : List Str} {k : Nat} : ((lrF l ws k).lookup (PySem.Str.ofString "end")).isNone = true := by
  have n1 : (PySem.Str.ofString "end" == PySem.Str.ofString "line") = false := by decide +kernel
  have n2 : (PySem.Str.ofString "end" == PySem.Str.ofString "row") = false := by decide +kernel
  have n3 : (PySem.Str.ofString "end" == PySem.Str.ofString "spot") = false := by decide +kernel
  simp [lrF, List.lookup_cons, n1, n2, n3]
theorem rules_in {x : Str} : isRule x = true ↔ x ∈ [sAny, sAsks, sLow] := by
  unfold isRule
  simp
theorem rules_words : wordsOf dRULES = some [sAny, sAsks, sLow] := rfl
section
variable {A : Ads} {l0 : Int} {s0 s1 s2 s3 s5 : Lt.S} {ws : List Str}
theorem eRule {x : Str} (hw : ws[1]? = some x) (hx : isRule x = true) : eMeth 4 A.CLineReader "one_of" (f_LR_one_of A) (arVal (eC dRULES) arNil) [s0, s1, s2, s3, .own none (lrO A l0 ws 1), s5] = .ok (.str x) [s0, s1, s2, s3, .own none (lrO A l0 ws 2), s5] := by
  have q := one_of_ok (A := A) (l := l0) (ws := ws) (k := 1) rules_words hw (rules_in.mp hx)
  have i : insAt 4 A.CLineReader [s0, s1, s2, s3, .own none (lrO A l0 ws 1), s5] = some (lrF l0 ws 1) := by unfold insAt lrO; simp
  unfold eMeth methR
  rw [i]
  dsimp only
  rw [if_pos lr_none1]
  generalize dRULES = RU at *
  simp [q]
theorem eRule_bad (hl : 1 ≤ ws.length) (hw : ∀ x, ws[1]? = some x → isRule x = false) : eMeth 4 A.CLineReader "one_of" (f_LR_one_of A) (arVal (eC dRULES) arNil) [s0, s1, s2, s3, .own none (lrO A l0 ws 1), s5] = .exc A.CInvalidText ["word", "line"] [.int 2, .int l0] [s0, s1, s2, s3, .own none (lrO A l0 ws 1), s5] := by
  have q := one_of_bad (A := A) (l := l0) (ws := ws) (k := 1) rules_words hl (fun w hw' hm => by have := hw w hw'; rw [rules_in.mpr hm] at this; cases this)
  have i : insAt 4 A.CLineReader [s0, s1, s2, s3, .own none (lrO A l0 ws 1), s5] = some (lrF l0 ws 1) := by unfold insAt lrO; simp
  unfold noText at q
  unfold eMeth methR
  rw [i]
  dsimp only
  rw [if_pos lr_none1]
  generalize dRULES = RU at *
  simp [q]
theorem eEnd (hl : ws.length = 2) : eMeth 4 A.CLineReader "end" (f_LR_end A) arNil [s0, s1, s2, s3, .own none (lrO A l0 ws 2), s5] = .ok .non [s0, s1, s2, s3, .own none (lrO A l0 ws 2), s5] := by
  have q : f_LR_end A [.own (lrO A l0 ws 2)] = .ok (.val .non) [.own (lrO A l0 ws 2)] := by unfold f_LR_end; simp [hl]
  have i : insAt 4 A.CLineReader [s0, s1, s2, s3, .own none (lrO A l0 ws 2), s5] = some (lrF l0 ws 2) := by unfold insAt lrO; simp
  unfold eMeth methR
  rw [i]
  dsimp only
  rw [if_pos lr_none3]
  simp [q]
theorem eEnd_bad (hl : 2 < ws.length) : eMeth 4 A.CLineReader "end" (f_LR_end A) arNil [s0, s1, s2, s3, .own none (lrO A l0 ws 2), s5] = .exc A.CInvalidText ["word", "line"] [.int 3, .int l0] [s0, s1, s2, s3, .own none (lrO A l0 ws 2), s5] := by
  have q : f_LR_end A [.own (lrO A l0 ws 2)] = noText A l0 2 [.own (lrO A l0 ws 2)] := by unfold f_LR_end; simp [hl]
  have i : insAt 4 A.CLineReader [s0, s1, s2, s3, .own none (lrO A l0 ws 2), s5] = some (lrF l0 ws 2) := by unfold insAt lrO; simp
  unfold noText at q
  unfold eMeth methR
  rw [i]
  dsimp only
  rw [if_pos lr_none3]
  simp [q]
end
noncomputable def gbR (A : Ads) (M1 M2 : Rho → Out D) (M3 : Rho → Out O) (M4 M5 : Rho → Out D) : Rho → Fl := sSeq (sSetO 1 (oMake (f_TR_init A) A.CTextReader (aCons (eVar 0) (aNil)))) (sSeq (sSet 2 M1) (sSeq (sSet 3 M2) (sSeq (sSetO 4 M3) (sSeq (sSet 5 M4) (sSeq (sExpr M5) (sSeq (sIf (eTest (eBin ltD (eFldO 1 A.CTextReader "done") (eCall lenD (aCons (eFldO 1 A.CTextReader "rows") (aNil))))) (sRaise A.CInvalidText ["line", "word"] (aCons (eBin addD (eFldO 1 A.CTextReader "done") (eC (.int 1))) (aCons (eC (.int 1)) (aNil)))) (sNext)) (sRet (eFrz (oMake (f_Plan2 A) A.CPlan (aCons (eVar 2) (aCons (eVar 3) (aCons (eVar 5) (aNil)))))))))))))
theorem gb_read_is (A : Ads) : gb_read A = gbR A (eMethT A.CLineReader "places" (f_LR_places A) (oMeth 1 A.CTextReader "take" (f_TR_take A) (arVal (eC (.str (PySem.Str.ofString "front"))) (arNil))) (aCons (eC (.int 3)) (aCons (eC (.int 5)) (aNil)))) (eMethT A.CLineReader "places" (f_LR_places A) (oMeth 1 A.CTextReader "take" (f_TR_take A) (arVal (eC (.str (PySem.Str.ofString "back"))) (arNil))) (aCons (eC (.int 2)) (aCons (eC (.int 4)) (aNil))))
    (oMeth 1 A.CTextReader "take" (f_TR_take A) (arVal (eC (.str (PySem.Str.ofString "rule"))) (arNil))) (eMeth 4 A.CLineReader "one_of" (f_LR_one_of A) (arVal (eC dRULES) (arNil))) (eMeth 4 A.CLineReader "end" (f_LR_end A) (arNil)) := rfl
theorem no_head {rows : List (List Str)} {k : Nat} {hd : Str} (h : ∀ ws, rows[k]? ≠ some (hd :: ws)) : ∀ ws, rows[k]? = some ws → ws[0]? ≠ some hd := by
  intro ws hw e
  cases ws with
  | nil => cases e
  | cons w ws =>
    have : w = hd := by simpa using e
    subst this
    exact h ws hw
theorem some_le {α : Type} {l : List α} {k : Nat} {a : α} (h : l[k]? = some a) : k + 1 ≤ l.length := (List.getElem?_eq_some_iff.mp h).1
theorem readX_spec {rows : List (List Str)} :
    (readX rows = .inl (1, 1) ∧ ∀ ws, rows[0]? ≠ some (sFront :: ws)) ∨ ∃ w1, rows[0]? = some (sFront :: w1) ∧
    ((∃ j, plcR 3 5 [] w1 = .inl j ∧ readX rows = .inl (1, j + 2)) ∨ ∃ f, plcR 3 5 [] w1 = .inr f ∧
    ((readX rows = .inl (2, 1) ∧ ∀ ws, rows[1]? ≠ some (sBack :: ws)) ∨ ∃ w2, rows[1]? = some (sBack :: w2) ∧
    ((∃ j, plcR 2 4 [] w2 = .inl j ∧ readX rows = .inl (2, j + 2)) ∨ ∃ b, plcR 2 4 [] w2 = .inr b ∧
    ((readX rows = .inl (3, 1) ∧ ∀ ws, rows[2]? ≠ some (sRule :: ws)) ∨ ∃ w3, rows[2]? = some (sRule :: w3) ∧
    ((readX rows = .inl (3, 2) ∧ ∀ x, w3[0]? = some x → isRule x = false) ∨ ∃ x rest, w3 = x :: rest ∧ isRule x = true ∧
    ((readX rows = .inl (3, 3) ∧ rest ≠ []) ∨ rest = [] ∧ (if 3 < rows.length then readX rows = .inl (4, 1) else readX rows = .inr (f, b, x)))))))) := by
  by_cases h1 : ∃ w1, rows[0]? = some (sFront :: w1)
  · obtain ⟨w1, e1⟩ := h1
    refine .inr ⟨w1, e1, ?_⟩
    cases p1 : plcR 3 5 [] w1 with
    | inl j => exact .inl ⟨j, rfl, by unfold readX; rw [e1]; dsimp only; rw [if_pos rfl, p1]⟩
    | inr f =>
      refine .inr ⟨f, rfl, ?_⟩
      by_cases h2 : ∃ w2, rows[1]? = some (sBack :: w2)
      · obtain ⟨w2, e2⟩ := h2
        refine .inr ⟨w2, e2, ?_⟩
        cases p2 : plcR 2 4 [] w2 with
        | inl j => exact .inl ⟨j, rfl, by unfold readX; rw [e1]; dsimp only; rw [if_pos rfl, p1]; dsimp only; rw [e2]; dsimp only; rw [if_pos rfl, p2]⟩
        | inr b =>
          refine .inr ⟨b, rfl, ?_⟩
          by_cases h3 : ∃ w3, rows[2]? = some (sRule :: w3)
          · obtain ⟨w3, e3⟩ := h3
            refine .inr ⟨w3, e3, ?_⟩
            cases w3 with
            | nil => exact .inl ⟨by unfold readX; rw [e1]; dsimp only; rw [if_pos rfl, p1]; dsimp only; rw [e2]; dsimp only; rw [if_pos rfl, p2]; dsimp only; rw [e3]; dsimp only; rw [if_pos rfl], fun x hx => by cases hx⟩
            | cons x rest =>
              have base : readX rows = (if isRule x = true then if rest = [] then if 3 < rows.length then .inl (4, 1) else .inr (f, b, x) else .inl (3, 3) else .inl (3, 2)) := by
                unfold readX; rw [e1]; dsimp only; rw [if_pos rfl, p1]; dsimp only; rw [e2]; dsimp only; rw [if_pos rfl, p2]; dsimp only; rw [e3]; dsimp only; rw [if_pos rfl]
              by_cases hr : isRule x = true
              · refine .inr ⟨x, rest, rfl, hr, ?_⟩
                rw [if_pos hr] at base
                by_cases hn : rest = []
                · refine .inr ⟨hn, ?_⟩
                  rw [if_pos hn] at base
                  by_cases hl : 3 < rows.length
                  · rw [if_pos hl] at base ⊢; exact base
                  · rw [if_neg hl] at base ⊢; exact base
                · rw [if_neg hn] at base
                  exact .inl ⟨base, hn⟩
              · rw [if_neg hr] at base
                refine .inl ⟨base, fun y hy => ?_⟩
                have : x = y := by simpa using hy
                subst this
                simpa using hr
          · refine .inl ⟨?_, fun ws hw => h3 ⟨ws, hw⟩⟩
            unfold readX; rw [e1]; dsimp only; rw [if_pos rfl, p1]; dsimp only; rw [e2]; dsimp only; rw [if_pos rfl, p2]; dsimp only
            split
            · rename_i h3' w3 e3
              rw [if_neg (fun z => h3 ⟨w3, by rw [e3, z]⟩)]
            · rfl
      · refine .inl ⟨?_, fun ws hw => h2 ⟨ws, hw⟩⟩
        unfold readX; rw [e1]; dsimp only; rw [if_pos rfl, p1]; dsimp only
        split
        · rename_i h2' w2 e2
          rw [if_neg (fun z => h2 ⟨w2, by rw [e2, z]⟩)]
        · rfl
  · refine .inl ⟨?_, fun ws hw => h1 ⟨ws, hw⟩⟩
    unfold readX
    split
    · rename_i h1' w1 e1
      rw [if_neg (fun z => h1 ⟨w1, by rw [e1, z]⟩)]
    · rfl
theorem eq_read (A : Ads) : ∀ ds, f_read A ds ≠ .stuck → finP (gb_read A (ds.map Lt.S.val ++ List.replicate (6 - ds.length) Lt.S.no)) = f_read A ds := by
  refine P1.all fun d h => ?_
  split at h
  · rename_i t
    split at h
    · rename_i hz
      rw [if_pos hz]
      clear h
      obtain ⟨hz, h80⟩ := hz
      have ti := TR_init_ok (A := A) hz
      generalize rowsOf t = rows at *
      have len80 : ∀ {k : Nat} {ws : List Str} {hd : Str}, rows[k]? = some (hd :: ws) → ws.length ≤ 80 := fun hk => by
        have := h80 _ (List.mem_of_getElem? hk)
        simp at this
        omega
      have P1n : (∀ ws, rows[0]? ≠ some (sFront :: ws)) → _ := fun h => ePlaces_no (A := A) (k := 0) (m := 3) (l := 5) (s0 := .val (.str t)) (r := [.no, .no, .no, .no]) (Nat.zero_le _) (no_head h)
      have P1b := fun w1 j (h : rows[0]? = some (sFront :: w1)) (hp : plcR 3 5 [] w1 = .inl j) => ePlaces_bad (A := A) (s0 := .val (.str t)) (r := [.no, .no, .no, .no]) h (len80 h) (by decide) hp
      have P1o := fun w1 f (h : rows[0]? = some (sFront :: w1)) (hp : plcR 3 5 [] w1 = .inr f) => ePlaces (A := A) (s0 := .val (.str t)) (r := [.no, .no, .no, .no]) h (len80 h) (by decide) hp
      have P2n := fun (f : List Int) (hl : 1 ≤ rows.length) (h : ∀ ws, rows[1]? ≠ some (sBack :: ws)) => ePlaces_no (A := A) (k := 1) (m := 2) (l := 4) (s0 := .val (.str t)) (r := [.val (.tup (f.map .int)), .no, .no, .no]) hl (no_head h)
      have P2b := fun (f : List Int) w2 j (h : rows[1]? = some (sBack :: w2)) (hp : plcR 2 4 [] w2 = .inl j) => ePlaces_bad (A := A) (s0 := .val (.str t)) (r := [.val (.tup (f.map .int)), .no, .no, .no]) h (len80 h) (by decide) hp
      have P2o := fun (f : List Int) w2 b (h : rows[1]? = some (sBack :: w2)) (hp : plcR 2 4 [] w2 = .inr b) => ePlaces (A := A) (s0 := .val (.str t)) (r := [.val (.tup (f.map .int)), .no, .no, .no]) h (len80 h) (by decide) hp
      have P3n := fun (f b : List Int) (hl : 2 ≤ rows.length) (h : ∀ ws, rows[2]? ≠ some (sRule :: ws)) => oTake_bad (A := A) (k := 2) (s0 := .val (.str t)) (r := [.val (.tup (f.map .int)), .val (.tup (b.map .int)), .no, .no]) hl (no_head h)
      have P3o := fun (f b : List Int) w3 (h : rows[2]? = some (sRule :: w3)) => oTake (A := A) (s0 := .val (.str t)) (r := [.val (.tup (f.map .int)), .val (.tup (b.map .int)), .no, .no]) h
      have P4o := fun (f b : List Int) (ws : List Str) (x : Str) (h : ws[1]? = some x) (hx : isRule x = true) => eRule (A := A) (l0 := 3) (s0 := .val (.str t)) (s1 := .own none (trO A rows (2 + 1))) (s2 := .val (.tup (f.map .int))) (s3 := .val (.tup (b.map .int))) (s5 := .no) h hx
      have P4b := fun (f b : List Int) (ws : List Str) (hl : 1 ≤ ws.length) (hw : ∀ x, ws[1]? = some x → isRule x = false) => eRule_bad (A := A) (l0 := 3) (s0 := .val (.str t)) (s1 := .own none (trO A rows (2 + 1))) (s2 := .val (.tup (f.map .int))) (s3 := .val (.tup (b.map .int))) (s5 := .no) hl hw
      have P5o := fun (f b : List Int) (ws : List Str) (x : Str) (h : ws.length = 2) => eEnd (A := A) (l0 := 3) (s0 := .val (.str t)) (s1 := .own none (trO A rows (2 + 1))) (s2 := .val (.tup (f.map .int))) (s3 := .val (.tup (b.map .int))) (s5 := .val (.str x)) h
      have P5b := fun (f b : List Int) (ws : List Str) (x : Str) (h : 2 < ws.length) => eEnd_bad (A := A) (l0 := 3) (s0 := .val (.str t)) (s1 := .own none (trO A rows (2 + 1))) (s2 := .val (.tup (f.map .int))) (s3 := .val (.tup (b.map .int))) (s5 := .val (.str x)) h
      have F1 := fun (s0 s2 s3 s4 s5 : Lt.S) => fldO_rows (A := A) (i := 1) (b := none) (rows := rows) (k := 2 + 1) (ρ := [s0, .own none (trO A rows (2 + 1)), s2, s3, s4, s5]) rfl
      have F2 := fun (s0 s2 s3 s4 s5 : Lt.S) => fldO_done (A := A) (i := 1) (b := none) (rows := rows) (k := 2 + 1) (ρ := [s0, .own none (trO A rows (2 + 1)), s2, s3, s4, s5]) rfl
      have len : lenD [rowsD rows] = some (.int (rows.length : Int)) := by
        show some (D.int ((rows.map fun ws => D.lst (ws.map .str)).length : Int)) = _
        rw [List.length_map]
      rw [gb_read_is]
      unfold sFront at P1n P1b P1o
      unfold sBack at P2n P2b P2o
      unfold sRule at P3n P3o
      generalize eMethT A.CLineReader "places" (f_LR_places A) (oMeth 1 A.CTextReader "take" (f_TR_take A) (arVal (eC (.str (PySem.Str.ofString "front"))) arNil)) (aCons (eC (.int 3)) (aCons (eC (.int 5)) aNil)) = M1 at *
      generalize eMethT A.CLineReader "places" (f_LR_places A) (oMeth 1 A.CTextReader "take" (f_TR_take A) (arVal (eC (.str (PySem.Str.ofString "back"))) arNil)) (aCons (eC (.int 2)) (aCons (eC (.int 4)) aNil)) = M2 at *
      generalize oMeth 1 A.CTextReader "take" (f_TR_take A) (arVal (eC (.str (PySem.Str.ofString "rule"))) arNil) = M3 at *
      generalize eMeth 4 A.CLineReader "one_of" (f_LR_one_of A) (arVal (eC dRULES) arNil) = M4 at *
      generalize eMeth 4 A.CLineReader "end" (f_LR_end A) arNil = M5 at *
      generalize rowsD rows = RD at *
      have T0 : ∃ T, trO A rows 0 = T := ⟨_, rfl⟩
      have sp := readX_spec (rows := rows)
      unfold gbR
      rcases sp with ⟨e, n1⟩ | ⟨w1, r0, ⟨j, p1, e⟩ | ⟨f, p1, ⟨e, n2⟩ | ⟨w2, r1, ⟨j, p2, e⟩ | ⟨b, p2, ⟨e, n3⟩ | ⟨w3, r2, ⟨e, n4⟩ | ⟨x, rest, rfl, hx, ⟨e, n5⟩ | ⟨rfl, e⟩⟩⟩⟩⟩⟩⟩
      · obtain ⟨s1, q1⟩ := P1n n1
        rw [e]
        unfold xText
        generalize trO A rows 0 = T0 at *
        simp [ti, q1]
      · have q1 := P1b w1 j r0 p1
        rw [e]
        unfold xText
        generalize trO A rows 0 = T0 at *
        generalize trO A rows (0 + 1) = T1 at *
        simp [ti, q1]
      · have q1 := P1o w1 f r0 p1
        obtain ⟨s1, q2⟩ := P2n f (some_le r0) n2
        rw [e]
        unfold xText
        generalize trO A rows 0 = T0 at *
        generalize trO A rows (0 + 1) = T1 at *
        generalize (f.map D.int) = FD at *
        simp [ti, q1, q2]
      · have q1 := P1o w1 f r0 p1
        have q2 := P2b f w2 j r1 p2
        rw [e]
        unfold xText
        generalize trO A rows 0 = T0 at *
        generalize trO A rows (0 + 1) = T1 at *
        generalize trO A rows (1 + 1) = T2 at *
        generalize (f.map D.int) = FD at *
        simp [ti, q1, q2]
      · have q1 := P1o w1 f r0 p1
        have q2 := P2o f w2 b r1 p2
        obtain ⟨s1, q3⟩ := P3n f b (some_le r1) n3
        rw [e]
        unfold xText
        generalize trO A rows 0 = T0 at *
        generalize trO A rows (0 + 1) = T1 at *
        generalize trO A rows (1 + 1) = T2 at *
        generalize (f.map D.int) = FD at *
        generalize (b.map D.int) = BD at *
        simp [ti, q1, q2, q3]
      · have q1 := P1o w1 f r0 p1
        have q2 := P2o f w2 b r1 p2
        have q3 := P3o f b w3 r2
        rw [show (((2 : Nat) : Int) + 1) = 3 from rfl] at q3
        have q4 := P4b f b (PySem.Str.ofString "rule" :: w3) (by simp) (fun x hx => n4 x (by simpa using hx))
        rw [e]
        unfold xText
        generalize trO A rows 0 = T0 at *
        generalize trO A rows (0 + 1) = T1 at *
        generalize trO A rows (1 + 1) = T2 at *
        generalize trO A rows (2 + 1) = T3 at *
        generalize (f.map D.int) = FD at *
        generalize (b.map D.int) = BD at *
        simp [ti, q1, q2, q3, q4]
      · have q1 := P1o w1 f r0 p1
        have q2 := P2o f w2 b r1 p2
        have q3 := P3o f b (x :: rest) r2
        rw [show (((2 : Nat) : Int) + 1) = 3 from rfl] at q3
        have q4 := P4o f b (PySem.Str.ofString "rule" :: x :: rest) x rfl hx
        have q5 := P5b f b (PySem.Str.ofString "rule" :: x :: rest) x (by cases rest with | nil => exact absurd rfl n5 | cons a l => simp)
        rw [e]
        unfold xText
        generalize trO A rows 0 = T0 at *
        generalize trO A rows (0 + 1) = T1 at *
        generalize trO A rows (1 + 1) = T2 at *
        generalize trO A rows (2 + 1) = T3 at *
        generalize (f.map D.int) = FD at *
        generalize (b.map D.int) = BD at *
        simp [ti, q1, q2, q3, q4, q5]
      · have q1 := P1o w1 f r0 p1
        have q2 := P2o f w2 b r1 p2
        have q3 := P3o f b [x] r2
        rw [show (((2 : Nat) : Int) + 1) = 3 from rfl] at q3
        have q4 := P4o f b (PySem.Str.ofString "rule" :: [x]) x rfl hx
        have q5 := P5o f b (PySem.Str.ofString "rule" :: [x]) x rfl
        have okp : okP3 f b x := ⟨plcR_okF p1, plcR_okB p2, hx⟩
        have pk := Plan2_ok (A := A) okp
        by_cases hl : 3 < rows.length
        · rw [if_pos hl] at e
          rw [e]
          have hl2 : (((2 + 1 : Nat) : Int) < (rows.length : Int)) := by omega
          unfold xText
          generalize trO A rows 0 = T0 at *
          generalize trO A rows (0 + 1) = T1 at *
          generalize trO A rows (1 + 1) = T2 at *
          generalize trO A rows (2 + 1) = T3 at *
          generalize (f.map D.int) = FD at *
          generalize (b.map D.int) = BD at *
          simp at hl2
          simp [ti, q1, q2, q3, q4, q5, F1, F2, len, hl2]
        · rw [if_neg hl] at e
          rw [e]
          have hl2 : ¬ (((2 + 1 : Nat) : Int) < (rows.length : Int)) := by omega
          generalize trO A rows 0 = T0 at *
          generalize trO A rows (0 + 1) = T1 at *
          generalize trO A rows (1 + 1) = T2 at *
          generalize trO A rows (2 + 1) = T3 at *
          generalize (f.map D.int) = FD at *
          generalize (b.map D.int) = BD at *
          simp at hl2
          have hl3 : ¬ ((3 : Int) < (rows.length : Int)) := by omega
          simp [ti, q1, q2, q3, q4, q5, F1, F2, len, hl3, pk, frz_oPlan]
    · exact absurd rfl h
  · exact absurd rfl h
end Lt

/-! # The law's own look at a line -/
namespace Lt
open PySem PySem.Spec L2
def headS (k : Int) : Str := if k = 0 then sFront else if k = 1 then sBack else sRule
def manyI (k : Int) : Int := if k = 0 then 3 else 2
def lastI (k : Int) : Int := if k = 0 then 5 else 4
def lineWr (k : Int) : List Str → Option Nat
  | [] => some 1
  | h :: w => if h = headS k then if k = 2 then match w with
      | [] => some 2
      | x :: rest => if isRule x = true then if rest = [] then none else some 3 else some 2
    else match plcR (manyI k) (lastI k) [] w with
      | .inl j => some (j + 2)
      | .inr _ => none
    else some 1
def natD : Option Nat → D
  | none => .non
  | some j => .int (j : Int)
noncomputable def lwB : Rho → Fl := sSeq (sIf (bOr (eTest (eBin gtD (eVar 5) (eVar 4))) (eTest (eBin (inD true) (eBin ixD (eVar 1) (eVar 5)) (eLcQ [6] (iRng2D (aCons (eVar 2) (aCons (eBin addD (eVar 3) (eC (.int 1))) (aNil)))) (gSet 6) (tYesD) (eCall strD (aCons (eVar 6) (aNil))))))) (sRet (eBin addD (eVar 5) (eC (.int 1)))) (sNext)) (sSet 2 (eBin addD (eCall intSD (aCons (eBin ixD (eVar 1) (eVar 5)) (aNil))) (eC (.int 1))))
theorem rng_cons17 {lo hi : Int} (h : lo < hi) : rng lo hi = lo :: rng (lo + 1) hi := by
  unfold rng
  have e : (hi - lo).toNat = (hi - (lo + 1)).toNat + 1 := by omega
  rw [e, List.range_succ_eq_map, List.map_cons, List.map_map]
  congr 1
  · simp
  · refine List.map_congr_left fun i _ => ?_
    simp
    omega
theorem rng_nil17 {lo hi : Int} (h : hi ≤ lo) : rng lo hi = [] := by
  unfold rng
  rw [show (hi - lo).toNat = 0 by omega]
  rfl
theorem lw_in {found : List Int} {l : Int} (hf : ∀ p ∈ found, 1 ≤ p ∧ p ≤ 5) (hl : 0 ≤ l ∧ l ≤ 5) {s0 s1 s3 s4 s5 s6 : Lt.S} (h3 : s3 = .val (.int l)) :
    eLcQ [6] (iRng2D (aCons (eVar 2) (aCons (eBin addD (eVar 3) (eC (.int 1))) (aNil)))) (gSet 6) (tYesD) (eCall strD (aCons (eVar 6) (aNil))) [s0, s1, .val (.int (last0 found + 1)), s3, s4, s5, s6] = .ok (.lst (((rng (last0 found + 1) (l + 1)).map txI).map .str)) [s0, s1, .val (.int (last0 found + 1)), s3, s4, s5, .no] := by
  subst h3
  have l0' : 0 ≤ last0 found := last0_pos fun v hv => (hf v hv).1
  have l5 : last0 found ≤ 5 := by
    rcases last0_mem found with e | e
    · omega
    · exact (hf _ e).2
  have rg1 : b62 (last0 found + 1) := b62_of (by omega) (by omega)
  have rg2 : b62 (l + 1) := b62_of (by omega) (by omega)
  have ir := iRange_rng (last0 found + 1) (l + 1)
  have lc := lcD_by (vs := [6]) (gt := gSet 6) (t := tYesD) (ge := eCall strD (aCons (eVar 6) (aNil)))
    (c := [s0, s1, .val (.int (last0 found + 1)), .val (.int l), s4, s5, .no]) D.int (fun p => [s0, s1, .val (.int (last0 found + 1)), .val (.int l), s4, s5, .val (.int p)]) (fun _ => true) (fun p => .str (txI p)) (rng (last0 found + 1) (l + 1)) []
    [s0, s1, .val (.int (last0 found + 1)), .val (.int l), s4, s5, s6] rfl (fun p hp => by
      have q := (txI_ok p (in15 hf hl hp)).2.2
      have st : strD [.int p] = some (.str (txI p)) := by show (if p.natAbs.log2 < 1920 then some (D.str (toString p)) else none) = _; rw [if_pos q]; rfl
      exact ⟨rfl, rfl, fun _ => by simp [st], rfl⟩) (by rw [sizeLine_eq, rng_length]; simp; omega)
  have ft : (rng (last0 found + 1) (l + 1)).filter (fun _ => true) = rng (last0 found + 1) (l + 1) := by simp
  rw [List.nil_append, ft] at lc
  simp [rg1, rg2, ir, lc, -rd_rng1, -rd_rng2, rd_rng1b, rd_rng2b, List.map_map, Function.comp_def]
theorem lw_loop {m l : Int} {k : D} {h : Str} {w : List Str} (hl : 0 ≤ l ∧ l ≤ 5) (hw : w.length ≤ 90) : ∀ (rest : List Str) (found : List Int) (s5 s6 : Lt.S), w.drop found.length = rest → found.length ≤ w.length → (∀ p ∈ found, 1 ≤ p ∧ p ≤ 5) →
    ∃ ρ', forD (gSet 5) lwB ((rng ((found.length : Int) + 1) ((w.length : Int) + 1)).map .int) [.val k, .val (.lst ((h :: w).map .str)), .val (.int (last0 found + 1)), .val (.int l), .val (.int m), s5, s6] = match plcR m l found rest with
      | .inr _ => .nx ρ'
      | .inl j => .rt (.val (.int ((j : Int) + 2))) ρ'
  | [], found, s5, s6, hr, hk, hf => by
    have : w.length ≤ found.length := by have := congrArg List.length hr; rw [List.length_drop] at this; simp at this; omega
    rw [rng_nil17 (by omega)]
    exact ⟨_, rfl⟩
  | wd :: rest, found, s5, s6, hr, hk, hf => by
    have hlt : found.length < w.length := by
      by_cases c : found.length < w.length
      · exact c
      · rw [List.drop_eq_nil_iff.mpr (by omega)] at hr; cases hr
    rw [List.drop_eq_getElem_cons hlt] at hr
    obtain ⟨e1, e2⟩ := List.cons.inj hr
    have hwd : w[found.length]? = some wd := by rw [List.getElem?_eq_getElem hlt, e1]
    rw [rng_cons17 (by omega), List.map_cons, rd_forC]
    have at1 : atI ((h :: w).map D.str) ((found.length : Int) + 1) = some (.str wd) := by
      rw [atI_nat (by omega), show ((found.length : Int) + 1).toNat = found.length + 1 by omega, List.map_cons, List.getElem?_cons_succ, List.getElem?_map, hwd]
      rfl
    have lc := fun s6 => lw_in (l := l) hf hl (s0 := .val k) (s1 := .val (.lst ((h :: w).map .str))) (s4 := .val (.int m)) (s5 := .val (.int ((found.length : Int) + 1))) (s6 := s6) rfl
    have iw := (inD_strs (w := wd) (xs := (rng (last0 found + 1) (l + 1)).map txI)).1
    dsimp only [gSet, List.set_cons_succ, List.set_cons_zero]
    unfold lwB
    generalize hIN : eLcQ [6] (iRng2D (aCons (eVar 2) (aCons (eBin addD (eVar 3) (eC (.int 1))) (aNil)))) (gSet 6) (tYesD) (eCall strD (aCons (eVar 6) (aNil))) = IN at *
    have hB : lwB = (sSeq (sIf (bOr (eTest (eBin gtD (eVar 5) (eVar 4))) (eTest (eBin (inD true) (eBin ixD (eVar 1) (eVar 5)) IN))) (sRet (eBin addD (eVar 5) (eC (.int 1)))) (sNext)) (sSet 2 (eBin addD (eCall intSD (aCons (eBin ixD (eVar 1) (eVar 5)) (aNil))) (eC (.int 1))))) := by unfold lwB; rw [hIN]
    generalize hWS : ((h :: w).map D.str) = WS at *
    by_cases c : (found.length : Int) < m
    · have c1 : ¬ (m < (found.length : Int) + 1) := by omega
      cases ef : (rng (last0 found + 1) (l + 1)).find? fun p => decide (txI p = wd) with
      | none =>
        have nm : wd ∉ (rng (last0 found + 1) (l + 1)).map txI := fun hm => by
          obtain ⟨p, hp, rfl⟩ := List.mem_map.mp hm
          have := List.find?_eq_none.mp ef p hp
          simp at this
        rw [decide_eq_false nm] at iw
        generalize (((rng (last0 found + 1) (l + 1)).map txI).map D.str) = RS at *
        refine ⟨[.val k, .val (.lst WS), .val (.int (last0 found + 1)), .val (.int l), .val (.int m), .val (.int ((found.length : Int) + 1)), .no], ?_⟩
        have pe : plcR m l found (wd :: rest) = .inl found.length := by rw [plcR, if_pos c, ef]
        rw [pe]
        simp [c1, at1, lc, iw]
        omega
      | some p =>
        have hp := List.mem_of_find?_eq_some ef
        have hpw : txI p = wd := by simpa using List.find?_some ef
        have p15 := in15 hf hl hp
        have mm : wd ∈ (rng (last0 found + 1) (l + 1)).map txI := List.mem_map.mpr ⟨p, hp, hpw⟩
        rw [decide_eq_true mm] at iw
        have q := txI_ok p p15
        have it : intSD [.str wd] = some (.int p) := by
          rw [← hpw]
          show (if (txI p).length ≤ 640 then (PySem.intText? (txI p)).map D.int else none) = _
          rw [if_pos q.2.1, q.1]
          rfl
        obtain ⟨ρ', ih⟩ := lw_loop (m := m) (k := k) (h := h) hl hw rest (found ++ [p]) (.val (.int ((found.length : Int) + 1))) .no (by rw [List.length_append]; exact e2) (by rw [List.length_append]; simp; omega) (fun v hv => by
          rcases List.mem_append.mp hv with hv | hv
          · exact hf v hv
          · have : v = p := by simpa using hv
            subst this
            simp at p15
            omega)
        have pe : plcR m l found (wd :: rest) = plcR m l (found ++ [p]) rest := by rw [plcR, if_pos c, ef]
        rw [pe]
        refine ⟨ρ', ?_⟩
        rw [hWS, hB] at ih
        have el : (((found ++ [p]).length : Nat) : Int) + 1 = (found.length : Int) + 1 + 1 := by rw [List.length_append]; simp
        have e0 : last0 (found ++ [p]) + 1 = p + 1 := by unfold last0; simp
        rw [el, e0] at ih
        generalize (((rng (last0 found + 1) (l + 1)).map txI).map D.str) = RS at *
        generalize forD (gSet 5) (sSeq (sIf (bOr (eTest (eBin gtD (eVar 5) (eVar 4))) (eTest (eBin (inD true) (eBin ixD (eVar 1) (eVar 5)) IN))) (sRet (eBin addD (eVar 5) (eC (.int 1)))) (sNext)) (sSet 2 (eBin addD (eCall intSD (aCons (eBin ixD (eVar 1) (eVar 5)) (aNil))) (eC (.int 1))))) ((rng ((found.length : Int) + 1 + 1) ((w.length : Int) + 1)).map .int) = FR at *
        simp [c1, at1, lc, iw, it, ih]
    · have c1 : (m < (found.length : Int) + 1) := by omega
      refine ⟨[.val k, .val (.lst WS), .val (.int (last0 found + 1)), .val (.int l), .val (.int m), .val (.int ((found.length : Int) + 1)), s6], ?_⟩
      have pe : plcR m l found (wd :: rest) = .inl found.length := by rw [plcR, if_neg c]
      rw [pe]
      simp [c1]
      omega
end Lt

/-! # The law's own look at lines -/
namespace Lt
open PySem PySem.Spec L2
open Classical in
noncomputable def f__law_line_wrong : PFs := P2 fun k ws => match k, ws with
  | .int k, .lst ds => match asStrs ds with
    | some ws => if (0 ≤ k ∧ k ≤ 2) ∧ ws.length ≤ 90 ∧ (∀ w ∈ ws, PyData.strOk w = true) then .ok (.val (natD (lineWr k ws))) else .stuck
    | none => .stuck
  | _, _ => .stuck
theorem line_wrong_ok {k : Int} {ws : List Str} (hk : 0 ≤ k ∧ k ≤ 2) (hl : ws.length ≤ 90) (hs : ∀ w ∈ ws, PyData.strOk w = true) : f__law_line_wrong [.int k, .lst (ws.map .str)] = .ok (.val (natD (lineWr k ws))) := by
  unfold f__law_line_wrong P2
  dsimp only
  rw [asStrs_map]
  dsimp only
  rw [if_pos ⟨hk, hl, hs⟩]
noncomputable def gb__law_line_wrong : Rho → Fl :=
  sSeq (sIf (bOr (eTest (eBin eqD (eVar 1) (eLst (aNil)))) (eTest (eBin neD (eBin ixD (eVar 1) (eC (.int 0))) (eBin ixD (eLst (aCons (eC (.str (PySem.Str.ofString "front"))) (aCons (eC (.str (PySem.Str.ofString "back"))) (aCons (eC (.str (PySem.Str.ofString "rule"))) (aNil))))) (eVar 0))))) (sRet (eC (.int 1))) (sNext)) (sSeq (sIf (eTest (eBin eqD (eVar 0) (eC (.int 2)))) (sSeq (sIf (bOr (eTest (eBin ltD (eCall lenD (aCons (eVar 1) (aNil))) (eC (.int 2)))) (eTest (eBin (inD true) (eBin ixD (eVar 1) (eC (.int 1))) (eTup (aCons (eC (.str (PySem.Str.ofString "any"))) (aCons (eC (.str (PySem.Str.ofString "asks"))) (aCons (eC (.str (PySem.Str.ofString "low"))) (aNil)))))))) (sRet (eC (.int 2))) (sNext)) (sRet (eIf (eTest (eBin gtD (eCall lenD (aCons (eVar 1) (aNil))) (eC (.int 2)))) (eC (.int 3)) (eC .non)))) (sNext)) (sSeq (sParN [2, 3, 4] (nVal (eC (.int 1)) (nVal (eBin ixD (eLst (aCons (eC (.int 5)) (aCons (eC (.int 4)) (aNil)))) (eVar 0)) (nVal (eBin ixD (eLst (aCons (eC (.int 3)) (aCons (eC (.int 2)) (aNil)))) (eVar 0)) (nNil))))) (sSeq (sFor (iRng2D (aCons (eC (.int 1)) (aCons (eCall lenD (aCons (eVar 1) (aNil))) (aNil)))) (gSet 5) (sSeq (sIf (bOr (eTest (eBin gtD (eVar 5) (eVar 4))) (eTest (eBin (inD true) (eBin ixD (eVar 1) (eVar 5)) (eLcQ [6] (iRng2D (aCons (eVar 2) (aCons (eBin addD (eVar 3) (eC (.int 1))) (aNil)))) (gSet 6) (tYesD) (eCall strD (aCons (eVar 6) (aNil))))))) (sRet (eBin addD (eVar 5) (eC (.int 1)))) (sNext)) (sSet 2 (eBin addD (eCall intSD (aCons (eBin ixD (eVar 1) (eVar 5)) (aNil))) (eC (.int 1)))))) (sRet (eC .non)))))
theorem gb__law_line_wrong_is : gb__law_line_wrong = (sSeq (sIf (bOr (eTest (eBin eqD (eVar 1) (eLst (aNil)))) (eTest (eBin neD (eBin ixD (eVar 1) (eC (.int 0))) (eBin ixD (eLst (aCons (eC (.str (PySem.Str.ofString "front"))) (aCons (eC (.str (PySem.Str.ofString "back"))) (aCons (eC (.str (PySem.Str.ofString "rule"))) (aNil))))) (eVar 0))))) (sRet (eC (.int 1))) (sNext)) (sSeq (sIf (eTest (eBin eqD (eVar 0) (eC (.int 2)))) (sSeq (sIf (bOr (eTest (eBin ltD (eCall lenD (aCons (eVar 1) (aNil))) (eC (.int 2)))) (eTest (eBin (inD true) (eBin ixD (eVar 1) (eC (.int 1))) (eTup (aCons (eC (.str (PySem.Str.ofString "any"))) (aCons (eC (.str (PySem.Str.ofString "asks"))) (aCons (eC (.str (PySem.Str.ofString "low"))) (aNil)))))))) (sRet (eC (.int 2))) (sNext)) (sRet (eIf (eTest (eBin gtD (eCall lenD (aCons (eVar 1) (aNil))) (eC (.int 2)))) (eC (.int 3)) (eC .non)))) (sNext)) (sSeq (sParN [2, 3, 4] (nVal (eC (.int 1)) (nVal (eBin ixD (eLst (aCons (eC (.int 5)) (aCons (eC (.int 4)) (aNil)))) (eVar 0)) (nVal (eBin ixD (eLst (aCons (eC (.int 3)) (aCons (eC (.int 2)) (aNil)))) (eVar 0)) (nNil))))) (sSeq (sFor (iRng2D (aCons (eC (.int 1)) (aCons (eCall lenD (aCons (eVar 1) (aNil))) (aNil)))) (gSet 5) lwB) (sRet (eC .non)))))) := by
  unfold gb__law_line_wrong lwB
  rfl
theorem okP_strs {ws : List Str} (hs : ∀ w ∈ ws, PyData.strOk w = true) : okP (.lst (ws.map .str)) = true := okP_lst (n := 0) (by
  rw [List.all_map, List.all_eq_true]
  intro w hw
  exact hs w hw) (by decide)
theorem eq_nilS {ws : List Str} (hs : ∀ w ∈ ws, PyData.strOk w = true) : eqD (.lst (ws.map .str)) (.lst []) = some (.bl (decide (ws = []))) := by
  rw [rd_eq (okP_strs hs) (okP_lst (n := 0) rfl (by decide))]
  cases ws with
  | nil => rfl
  | cons w ws => rw [List.map_cons, eqB_cn]; rfl
theorem eq__law_line_wrong : ∀ ds, f__law_line_wrong ds ≠ .stuck → finP (gb__law_line_wrong (ds.map Lt.S.val ++ List.replicate (7 - ds.length) Lt.S.no)) = f__law_line_wrong ds := by
  refine P2.all fun a b h => ?_
  split at h
  · rename_i k ds
    cases e : asStrs ds with
    | none => rw [e] at h; exact absurd rfl h
    | some ws =>
      have := asStrs_is e
      subst this
      dsimp only
      rw [asStrs_map] at h
      dsimp only at h ⊢
      split at h
      · rename_i hz
        rw [if_pos hz]
        obtain ⟨hk, hl, hs⟩ := hz
        rw [gb__law_line_wrong_is]
        have en := eq_nilS hs
        cases ws with
        | nil =>
          simp only [decide_true, List.map_nil] at en
          simp [en, lineWr, natD]
        | cons hd w =>
          simp only [reduceCtorEq, decide_false, List.map_cons] at en
          have so := hs hd List.mem_cons_self
          have hh : PyData.strOk (headS k) = true := by unfold headS; split; decide +kernel; split <;> decide +kernel
          have nh := ne_str so hh
          have ah : atI [D.str (PySem.Str.ofString "front"), .str (PySem.Str.ofString "back"), .str (PySem.Str.ofString "rule")] k = some (.str (headS k)) := by
            have : k = 0 ∨ k = 1 ∨ k = 2 := by omega
            rcases this with rfl | rfl | rfl <;> simp [headS, sFront, sBack, sRule]
          have e2 : eqD (.int k) (.int 2) = some (.bl (decide (k = 2))) := by
            rw [rd_eq (okP_shp (n := 0) rfl (by decide)) (okP_shp (n := 0) rfl (by decide)), eqB_int]
          by_cases c1 : hd = headS k
          · rw [decide_eq_true c1] at nh
            by_cases c2 : k = 2
            · rw [decide_eq_true c2] at e2
              cases w with
              | nil =>
                simp only [List.map_nil] at en
                generalize lwB = LB at *
                simp only [lineWr, if_pos c1, if_pos c2, natD]
                simp [en, ah, nh, e2]
              | cons x rest =>
                have ix := (inD_strs (w := x) (xs := [sAny, sAsks, sLow])).2
                unfold sAny sAsks sLow at ix
                simp only [List.map_cons, List.map_nil] at ix
                have lt2 : ¬ ((rest.length : Int) + 1 + 1 < 2) := by omega
                generalize lwB = LB at *
                by_cases cx : isRule x = true
                · have m := rules_in.mp cx
                  unfold sAny sAsks sLow at m
                  rw [decide_eq_true m] at ix
                  cases rest with
                  | nil =>
                    simp only [List.map_cons, List.map_nil] at en
                    simp only [lineWr, if_pos c1, if_pos c2, if_pos cx, natD]
                    simp [en, ah, nh, e2, ix]
                  | cons y l =>
                    simp only [List.map_cons] at en
                    have lt3 : (2 : Int) < ((l.length : Int) + 1 + 1 + 1) := by omega
                    have lt4 : ¬ (((l.length : Int) + 1 + 1 + 1) < 2) := by omega
                    simp only [lineWr, if_pos c1, if_pos c2, if_pos cx, natD, reduceCtorEq, if_false]
                    simp [en, ah, nh, e2, ix, lt3, lt4]
                · have m : ¬ (x ∈ [sAny, sAsks, sLow]) := fun z => cx (rules_in.mpr z)
                  unfold sAny sAsks sLow at m
                  rw [decide_eq_false m] at ix
                  simp only [lineWr, if_pos c1, if_pos c2, if_neg cx, natD]
                  simp only [List.map_cons] at en
                  simp [en, ah, nh, e2, ix, lt2]
            · rw [decide_eq_false c2] at e2
              have a5 : atI [D.int 5, .int 4] k = some (.int (lastI k)) := by
                have : k = 0 ∨ k = 1 := by omega
                rcases this with rfl | rfl <;> simp [lastI]
              have a3 : atI [D.int 3, .int 2] k = some (.int (manyI k)) := by
                have : k = 0 ∨ k = 1 := by omega
                rcases this with rfl | rfl <;> simp [manyI]
              have ll : 0 ≤ lastI k ∧ lastI k ≤ 5 := by unfold lastI; split <;> omega
              obtain ⟨ρ', lp⟩ := lw_loop (m := manyI k) (l := lastI k) (k := .int k) (h := hd) (w := w) ll (by simp at hl; omega) w [] .no .no (by simp) (by simp) (fun p hp => by cases hp)
              have rg : b62 ((w.length : Int) + 1) := b62_of (by omega) (by simp at hl; omega)
              have ir := iRange_rng 1 ((w.length : Int) + 1)
              rw [show last0 ([] : List Int) = 0 from rfl] at lp
              simp only [List.length_nil, Int.natCast_zero, Int.zero_add, show ((0 : Nat) : Int) = 0 from rfl] at lp
              generalize lwB = LB at *
              simp only [lineWr, if_pos c1, if_neg c2]
              cases ep : plcR (manyI k) (lastI k) [] w with
              | inr f =>
                rw [ep] at lp
                dsimp only [natD] at lp ⊢
                simp only [List.map_cons] at lp
                simp [en, ah, nh, e2, a5, a3, rg, ir, lp, -rd_rng1, -rd_rng2, rd_rng1b, rd_rng2b]
              | inl j =>
                rw [ep] at lp
                dsimp only [natD] at lp ⊢
                simp only [List.map_cons] at lp
                simp [en, ah, nh, e2, a5, a3, rg, ir, lp, -rd_rng1, -rd_rng2, rd_rng1b, rd_rng2b]
          · rw [decide_eq_false c1] at nh
            generalize lwB = LB at *
            simp only [lineWr, if_neg c1, natD]
            simp [en, ah, nh]
      · exact absurd rfl h
  · exact absurd rfl h
/-! ### all lines -/
def pairD : Option (Nat × Nat) → D
  | none => .non
  | some (a, b) => .lst [.int (a : Int), .int (b : Int)]
def goL : Nat → List (List Str) → Option (Nat × Nat)
  | _, [] => none
  | k, ws :: r => if k = 3 then some (4, 1) else match lineWr (k : Int) ws with
    | some j => some (k + 1, j)
    | none => goL (k + 1) r
def wrongX (rows : List (List Str)) : Option (Nat × Nat) := match goL 0 rows with
  | some p => some p
  | none => if rows.length < 3 then some (rows.length + 1, 1) else none
def okRows (rows : List (List Str)) : Prop := rows.length ≤ 90 ∧ ∀ ws ∈ rows, ws.length ≤ 70 ∧ ∀ w ∈ ws, okWord w
theorem okWord.strOk {w : Str} (h : okWord w) : PyData.strOk w = true := by
  unfold PyData.strOk
  rw [← Array.all_toList, List.all_eq_true]
  intro c hc
  have := (h.gd c hc).1
  exact decide_eq_true (by omega)
open Classical in
noncomputable def f__law_wrong : PFs := P1 fun d => match d with
  | .lst ds => match asRows ds with
    | some rows => if okRows rows then .ok (.val (pairD (wrongX rows))) else .stuck
    | none => .stuck
  | _ => .stuck
theorem wrong_ok {rows : List (List Str)} (h : okRows rows) : f__law_wrong [rowsD rows] = .ok (.val (pairD (wrongX rows))) := by
  unfold f__law_wrong P1 rowsD
  dsimp only
  rw [asRows_map]
  dsimp only
  rw [if_pos h]
noncomputable def wrB : Rho → Fl := sSeq (sIf (eTest (eBin eqD (eVar 1) (eC (.int 3)))) (sRet (eLst (aCons (eC (.int 4)) (aCons (eC (.int 1)) (aNil))))) (sNext)) (sSeq (sSet 2 (eFn f__law_line_wrong (aCons (eVar 1) (aCons (eBin ixD (eVar 0) (eVar 1)) (aNil))))) (sIf (eTest (eBin (isN true) (eVar 2) (eC .non))) (sRet (eLst (aCons (eBin addD (eVar 1) (eC (.int 1))) (aCons (eVar 2) (aNil))))) (sNext)))
noncomputable def gb__law_wrong : Rho → Fl :=
  sSeq (sFor (iRng1D (aCons (eCall lenD (aCons (eVar 0) (aNil))) (aNil))) (gSet 1) (sSeq (sIf (eTest (eBin eqD (eVar 1) (eC (.int 3)))) (sRet (eLst (aCons (eC (.int 4)) (aCons (eC (.int 1)) (aNil))))) (sNext)) (sSeq (sSet 2 (eFn f__law_line_wrong (aCons (eVar 1) (aCons (eBin ixD (eVar 0) (eVar 1)) (aNil))))) (sIf (eTest (eBin (isN true) (eVar 2) (eC .non))) (sRet (eLst (aCons (eBin addD (eVar 1) (eC (.int 1))) (aCons (eVar 2) (aNil))))) (sNext))))) (sRet (eIf (eTest (eBin ltD (eCall lenD (aCons (eVar 0) (aNil))) (eC (.int 3)))) (eLst (aCons (eBin addD (eCall lenD (aCons (eVar 0) (aNil))) (eC (.int 1))) (aCons (eC (.int 1)) (aNil)))) (eC .non)))
theorem gb__law_wrong_is : gb__law_wrong = (sSeq (sFor (iRng1D (aCons (eCall lenD (aCons (eVar 0) (aNil))) (aNil))) (gSet 1) wrB) (sRet (eIf (eTest (eBin ltD (eCall lenD (aCons (eVar 0) (aNil))) (eC (.int 3)))) (eLst (aCons (eBin addD (eCall lenD (aCons (eVar 0) (aNil))) (eC (.int 1))) (aCons (eC (.int 1)) (aNil)))) (eC .non)))) := by
  unfold gb__law_wrong wrB
  rfl
theorem wr_loop {rows : List (List Str)} (h : okRows rows) : ∀ (rest : List (List Str)) (k : Nat) (s1 s2 : Lt.S), rows.drop k = rest → k ≤ 3 → k ≤ rows.length →
    ∃ ρ', forD (gSet 1) wrB ((rng (k : Int) (rows.length : Int)).map .int) [.val (rowsD rows), s1, s2] = match goL k rest with
      | some p => .rt (.val (pairD (some p))) ρ'
      | none => .nx (.val (rowsD rows) :: ρ')
  | [], k, s1, s2, hr, h3, hl => by
    have : rows.length ≤ k := by have := congrArg List.length hr; rw [List.length_drop] at this; simp at this; omega
    rw [rng_nil17 (by omega)]
    exact ⟨_, rfl⟩
  | ws :: rest, k, s1, s2, hr, h3, hl => by
    have hlt : k < rows.length := by
      by_cases c : k < rows.length
      · exact c
      · rw [List.drop_eq_nil_iff.mpr (by omega)] at hr; cases hr
    rw [List.drop_eq_getElem_cons hlt] at hr
    obtain ⟨e1, e2⟩ := List.cons.inj hr
    have hwd : rows[k]? = some ws := by rw [List.getElem?_eq_getElem hlt, e1]
    have hm := h.2 ws (List.mem_of_getElem? hwd)
    rw [rng_cons17 (by omega), List.map_cons, rd_forC]
    have ek : eqD (.int (k : Int)) (.int 3) = some (.bl (decide (k = 3))) := by
      rw [rd_eq (okP_shp (n := 0) rfl (by decide)) (okP_shp (n := 0) rfl (by decide)), eqB_int]
      congr 3
      exact propext ⟨fun z => by omega, fun z => by omega⟩
    have at1 : ixD (rowsD rows) (.int (k : Int)) = some (.lst (ws.map .str)) := by
      show atI (rows.map fun ws => D.lst (ws.map .str)) (k : Int) = _
      rw [atI_nat (by omega), Int.toNat_natCast, List.getElem?_map, hwd]
      rfl
    have hB : wrB = sSeq (sIf (eTest (eBin eqD (eVar 1) (eC (.int 3)))) (sRet (eLst (aCons (eC (.int 4)) (aCons (eC (.int 1)) (aNil))))) (sNext)) (sSeq (sSet 2 (eFn f__law_line_wrong (aCons (eVar 1) (aCons (eBin ixD (eVar 0) (eVar 1)) (aNil))))) (sIf (eTest (eBin (isN true) (eVar 2) (eC .non))) (sRet (eLst (aCons (eBin addD (eVar 1) (eC (.int 1))) (aCons (eVar 2) (aNil))))) (sNext))) := rfl
    dsimp only [gSet, List.set_cons_succ, List.set_cons_zero]
    by_cases c3 : k = 3
    · rw [decide_eq_true c3] at ek
      refine ⟨[.val (rowsD rows), .val (.int (k : Int)), s2], ?_⟩
      have eg : goL k (ws :: rest) = some (4, 1) := by rw [goL, if_pos c3]
      rw [eg, hB]
      generalize rowsD rows = RD at *
      simp [ek, pairD]
    · rw [decide_eq_false c3] at ek
      have lw := line_wrong_ok (k := (k : Int)) (ws := ws) (by omega) (by omega) (fun w hw => (hm.2 w hw).strOk)
      obtain ⟨ρ', ih⟩ := wr_loop h rest (k + 1) (.val (.int (k : Int))) (.val .non) e2 (by omega) (by omega)
      cases el : lineWr (k : Int) ws with
      | some j =>
        rw [el] at lw
        have eg : goL k (ws :: rest) = some (k + 1, j) := by rw [goL, if_neg c3, el]
        refine ⟨[.val (rowsD rows), .val (.int (k : Int)), .val (.int (j : Int))], ?_⟩
        rw [eg, hB]
        generalize rowsD rows = RD at *
        generalize (ws.map D.str) = WS at *
        simp [ek, at1, lw, natD, pairD, isN]
      | none =>
        rw [el] at lw
        have eg : goL k (ws :: rest) = goL (k + 1) rest := by rw [goL, if_neg c3, el]
        refine ⟨ρ', ?_⟩
        rw [eg]
        rw [hB] at ih ⊢
        rw [show (((k + 1 : Nat)) : Int) = (k : Int) + 1 by omega] at ih
        generalize rowsD rows = RD at *
        generalize (ws.map D.str) = WS at *
        generalize forD (gSet 1) (sSeq (sIf (eTest (eBin eqD (eVar 1) (eC (.int 3)))) (sRet (eLst (aCons (eC (.int 4)) (aCons (eC (.int 1)) (aNil))))) (sNext)) (sSeq (sSet 2 (eFn f__law_line_wrong (aCons (eVar 1) (aCons (eBin ixD (eVar 0) (eVar 1)) (aNil))))) (sIf (eTest (eBin (isN true) (eVar 2) (eC .non))) (sRet (eLst (aCons (eBin addD (eVar 1) (eC (.int 1))) (aCons (eVar 2) (aNil))))) (sNext)))) ((rng ((k : Int) + 1) (rows.length : Int)).map .int) = FR at *
        simp [ek, at1, lw, natD, isN, ih]
theorem eq__law_wrong : ∀ ds, f__law_wrong ds ≠ .stuck → finP (gb__law_wrong (ds.map Lt.S.val ++ List.replicate (3 - ds.length) Lt.S.no)) = f__law_wrong ds := by
  refine P1.all fun d h => ?_
  split at h
  · rename_i ds
    cases e : asRows ds with
    | none => rw [e] at h; exact absurd rfl h
    | some rows =>
      have := asRows_is e
      subst this
      rw [e] at h
      dsimp only at h ⊢
      split at h
      · rename_i hz
        rw [if_pos hz]
        clear h
        obtain ⟨ρ', lp⟩ := wr_loop hz rows 0 .no .no rfl (by omega) (by omega)
        have rg : b62 ((rows.length : Int)) := b62_of (by omega) (by have := hz.1; omega)
        have ir := iRange_rng 0 (rows.length : Int)
        have len : lenD [rowsD rows] = some (.int (rows.length : Int)) := by
          show some (D.int ((rows.map fun ws => D.lst (ws.map .str)).length : Int)) = _
          rw [List.length_map]
        rw [gb__law_wrong_is]
        rw [show (D.lst (rows.map fun ws => D.lst (ws.map .str))) = rowsD rows from rfl]
        rw [show ((0 : Nat) : Int) = 0 from rfl] at lp
        generalize wrB = WB at *
        unfold wrongX
        cases eg : goL 0 rows with
        | some p =>
          rw [eg] at lp
          dsimp only at lp ⊢
          generalize rowsD rows = RD at *
          simp [len, rg, ir, lp, -rd_rng1, -rd_rng2, rd_rng1b, rd_rng2b]
        | none =>
          rw [eg] at lp
          dsimp only at lp ⊢
          generalize rowsD rows = RD at *
          by_cases c : rows.length < 3
          · have c2 : (rows.length : Int) < 3 := by omega
            rw [if_pos c]
            simp [len, rg, ir, lp, c2, pairD, -rd_rng1, -rd_rng2, rd_rng1b, rd_rng2b]
          · have c2 : ¬ (rows.length : Int) < 3 := by omega
            rw [if_neg c]
            simp [len, rg, ir, lp, c2, pairD, -rd_rng1, -rd_rng2, rd_rng1b, rd_rng2b]
      · exact absurd rfl h
  · exact absurd rfl h
end Lt

/-! # Both looks are the same; the law's parts -/
namespace Lt
open PySem PySem.Spec L2
theorem lineWr_no {k : Int} {ws : List Str} (h : ∀ w, ws ≠ headS k :: w) : lineWr k ws = some 1 := by
  unfold lineWr
  cases ws with
  | nil => rfl
  | cons a w =>
    dsimp only
    rw [if_neg fun z => h w (by rw [z])]
theorem lineWr_0 {w : List Str} : lineWr 0 (sFront :: w) = match plcR 3 5 [] w with
    | .inl j => some (j + 2)
    | .inr _ => none := by
  have e : sFront = headS 0 := rfl
  unfold lineWr
  dsimp only
  rw [if_pos e, if_neg (by decide)]
  rfl
theorem lineWr_1 {w : List Str} : lineWr 1 (sBack :: w) = match plcR 2 4 [] w with
    | .inl j => some (j + 2)
    | .inr _ => none := by
  have e : sBack = headS 1 := rfl
  unfold lineWr
  dsimp only
  rw [if_pos e, if_neg (by decide)]
  rfl
theorem lineWr_2 {w : List Str} : lineWr 2 (sRule :: w) = match w with
      | [] => some 2
      | x :: rest => if isRule x = true then if rest = [] then none else some 3 else some 2 := by
  have e : sRule = headS 2 := rfl
  unfold lineWr
  dsimp only
  rw [if_pos e]
  cases w <;> rfl
theorem wrong_read (rows : List (List Str)) : wrongX rows = match readX rows with
    | .inl p => some p
    | .inr _ => none := by
  have sp := readX_spec (rows := rows)
  unfold wrongX
  cases rows with
  | nil =>
    rcases sp with ⟨e, _⟩ | ⟨w1, r0, _⟩
    · rw [e]; rfl
    · cases r0
  | cons r0 t0 =>
    simp only [List.getElem?_cons_zero, Option.some.injEq, ne_eq, List.getElem?_cons_succ] at sp
    rcases sp with ⟨e, n1⟩ | ⟨w1, rfl, sp⟩
    · rw [e, goL, if_neg (by decide), lineWr_no (k := ((0 : Nat) : Int)) (fun w hw => n1 w hw)]
    · rw [goL, if_neg (by decide), show ((0 : Nat) : Int) = 0 from rfl, lineWr_0]
      rcases sp with ⟨j, p1, e⟩ | ⟨f, p1, sp⟩
      · rw [p1, e]
      · rw [p1]
        dsimp only
        cases t0 with
        | nil =>
          rcases sp with ⟨e, _⟩ | ⟨w2, r1, _⟩
          · rw [e]; rfl
          · cases r1
        | cons r1 t1 =>
          simp only [List.getElem?_cons_zero, Option.some.injEq, List.getElem?_cons_succ] at sp
          rcases sp with ⟨e, n1⟩ | ⟨w2, rfl, sp⟩
          · rw [e, goL, if_neg (by decide), lineWr_no (k := ((0 + 1 : Nat) : Int)) (fun w hw => n1 w hw)]
          · rw [goL, if_neg (by decide), show ((0 + 1 : Nat) : Int) = 1 from rfl, lineWr_1]
            rcases sp with ⟨j, p2, e⟩ | ⟨b, p2, sp⟩
            · rw [p2, e]
            · rw [p2]
              dsimp only
              cases t1 with
              | nil =>
                rcases sp with ⟨e, _⟩ | ⟨w3, r2, _⟩
                · rw [e]; rfl
                · cases r2
              | cons r2 t2 =>
                simp only [List.getElem?_cons_zero, Option.some.injEq] at sp
                rcases sp with ⟨e, n1⟩ | ⟨w3, rfl, sp⟩
                · rw [e, goL, if_neg (by decide), lineWr_no (k := ((0 + 1 + 1 : Nat) : Int)) (fun w hw => n1 w hw)]
                · rw [goL, if_neg (by decide), show ((0 + 1 + 1 : Nat) : Int) = 2 from rfl, lineWr_2]
                  rcases sp with ⟨e, n4⟩ | ⟨x, rest, rfl, hx, ⟨e, n5⟩ | ⟨rfl, e⟩⟩
                  · rw [e]
                    cases w3 with
                    | nil => rfl
                    | cons x rest =>
                      dsimp only
                      rw [if_neg (by rw [n4 x rfl]; simp)]
                  · rw [e]
                    dsimp only
                    rw [if_pos hx, if_neg n5]
                  · dsimp only
                    rw [if_pos hx, if_pos rfl]
                    dsimp only
                    cases t2 with
                    | nil =>
                      rw [if_neg (by simp)] at e
                      rw [e]
                      rfl
                    | cons r3 t3 =>
                      rw [if_pos (by simp)] at e
                      rw [e]
                      rfl
/-! ### texts of rows -/
def textR (rows : List (List Str)) : Str := Txt.join nlS (rows.map (Txt.join spS))
theorem line_len {ws : List Str} (h : ∀ w ∈ ws, okWord w) (hl : ws.length ≤ 20) : gd (Txt.join spS ws) ∧ (Txt.join spS ws).length ≤ 220 := by
  refine ⟨gd_join fun w hw => (h w hw).gd, ?_⟩
  have e1 := len_join spS ws
  have e2 := sum_le (n := 10) fun w hw => (h w hw).len
  have sl : spS.length = 1 := by decide +kernel
  rw [sl] at e1
  omega
theorem textR_ok {rows : List (List Str)} (hne : rows ≠ []) (hn : rows.length ≤ 20) (h : ∀ ws ∈ rows, ws.length ≤ 20 ∧ ∀ w ∈ ws, okWord w) : okText (textR rows) ∧ rowsOf (textR rows) = rows := by
  have e := text_ok (lines := rows.map (Txt.join spS)) (by simpa using hne) (by simp; omega) (fun line hm => by
    obtain ⟨ws, hw, rfl⟩ := List.mem_map.mp hm
    obtain ⟨q1, q2⟩ := line_len (h ws hw).2 (h ws hw).1
    exact ⟨q1, by omega⟩) (by
    have := sum_le (ys := rows.map (Txt.join spS)) (n := 220) fun line hm => by
      obtain ⟨ws, hw, rfl⟩ := List.mem_map.mp hm
      exact (line_len (h ws hw).2 (h ws hw).1).2
    have l3 : (rows.map (Txt.join spS)).length = rows.length := by simp
    omega)
  refine ⟨e.1, e.2.trans ?_⟩
  rw [List.map_map]
  conv => rhs; rw [← List.map_id rows]
  exact List.map_congr_left fun ws hw => rowOf_words (h ws hw).2
/-! ### _law_refused -/
open Classical in
noncomputable def f__law_refused (A : Ads) : PFs := P1 fun d => match d with
  | .str t => if okText t ∧ (∀ ws ∈ rowsOf t, ws.length ≤ 80) then .ok (.val (pairD (wrongX (rowsOf t)))) else .stuck
  | _ => .stuck
theorem refused_ok {A : Ads} {t : Str} (h : okText t) (h2 : ∀ ws ∈ rowsOf t, ws.length ≤ 80) : f__law_refused A [.str t] = .ok (.val (pairD (wrongX (rowsOf t)))) := by
  unfold f__law_refused P1
  dsimp only
  rw [if_pos ⟨h, h2⟩]
theorem fld_line {a b : D} : fldOf (PySem.Str.ofString "line") [PySem.Str.ofString "word", PySem.Str.ofString "line"] [a, b] = some b := by
  have n : (PySem.Str.ofString "line" == PySem.Str.ofString "word") = false := by decide +kernel
  unfold fldOf
  simp [List.lookup_cons, n]
theorem fld_word {a b : D} : fldOf (PySem.Str.ofString "word") [PySem.Str.ofString "word", PySem.Str.ofString "line"] [a, b] = some a := by
  unfold fldOf
  simp [List.lookup_cons]
noncomputable def gb__law_refused (A : Ads) : Rho → Fl :=
  sSeq (sSet 1 (eC .non)) (sSeq (sTry (sExpr (eFn (f_read A) (aCons (eVar 0) (aNil)))) [A.CInvalidFront, A.CInvalidBack, A.CInvalidRule, A.CInvalidText] [⟨A.CInvalidText, false, some 2, sSet 1 (eLst (aCons (eExn 2 "line") (aCons (eExn 2 "word") (aNil))))⟩]) (sRet (eVar 1)))
theorem eq__law_refused (A : Ads) : ∀ ds, f__law_refused A ds ≠ .stuck → finP (gb__law_refused A (ds.map Lt.S.val ++ List.replicate (3 - ds.length) Lt.S.no)) = f__law_refused A ds := by
  refine P1.all fun d h => ?_
  split at h
  · rename_i t
    split at h
    · rename_i hz
      rw [if_pos hz]
      clear h
      have wr := wrong_read (rowsOf t)
      cases er : readX (rowsOf t) with
      | inl p =>
        obtain ⟨l, w⟩ := p
        have rb := read_badX (A := A) hz.1 hz.2 er
        rw [er] at wr
        rw [wr]
        unfold xText at rb
        unfold gb__law_refused
        have f1 := fld_line (a := .int (w : Int)) (b := .int (l : Int))
        have f2 := fld_word (a := .int (w : Int)) (b := .int (l : Int))
        simp [rb, pairD, f1, f2]
      | inr p =>
        obtain ⟨f, b, x⟩ := p
        have ro := read_okX (A := A) hz.1 hz.2 er
        rw [er] at wr
        rw [wr]
        unfold gb__law_refused
        simp [ro, pairD]
    · exact absurd rfl h
  · exact absurd rfl h
end Lt

/-! # Lines changed -/
namespace Lt
open PySem PySem.Spec L2
theorem cut_to18 (xs : List D) (k : Nat) : cutD xs none (some (k : Int)) = xs.take k := by
  unfold cutD
  rw [HT.sIx_none, HT.sIx_nat]
  simp
theorem cut_from18 (xs : List D) (k : Nat) : cutD xs (some (k : Int)) none = xs.drop k := by
  unfold cutD
  rw [HT.sIx_none, HT.sIx_nat]
  by_cases h : k ≤ xs.length
  · rw [Nat.min_eq_left h]
    exact List.take_of_length_le (by simp)
  · rw [Nat.min_eq_right (by omega)]
    simp
    omega
theorem cut_two18 (xs : List D) (k : Nat) (h : k ≤ xs.length) : cutD xs (some (k : Int)) (some ((k + 2 : Nat) : Int)) = (xs.drop k).take 2 := by
  unfold cutD
  rw [HT.sIx_nat, HT.sIx_nat, Nat.min_eq_left h]
  by_cases c : k + 2 ≤ xs.length
  · rw [Nat.min_eq_left c]
    congr 1
    omega
  · rw [Nat.min_eq_right (by omega), List.take_of_length_le (by simp), List.take_of_length_le (by simp; omega)]
def wsD (ws : List Str) : D := .lst (ws.map .str)
def ODDS : List Str := [PySem.Str.ofString "front", PySem.Str.ofString "back", PySem.Str.ofString "rule", PySem.Str.ofString "any", PySem.Str.ofString "low", PySem.Str.ofString "asks", PySem.Str.ofString "0", PySem.Str.ofString "1", PySem.Str.ofString "2", PySem.Str.ofString "3", PySem.Str.ofString "4", PySem.Str.ofString "5", PySem.Str.ofString "6", PySem.Str.ofString "01", PySem.Str.ofString "-1", PySem.Str.ofString "x"]
def okWb (w : Str) : Bool := (TL.tl w).all (fun c => decide (c < 128) && (decide (c ≠ 10) && decide (c ≠ 32))) && (decide (TL.tl w ≠ []) && decide (w.length ≤ 10))
theorem okWord_of {w : Str} (h : okWb w = true) : okWord w := by
  unfold okWb at h
  rw [Bool.and_eq_true, Bool.and_eq_true] at h
  obtain ⟨h1, h2, h3⟩ := h
  have q := fun c hc => (List.all_eq_true.mp h1) c hc
  refine ⟨fun c hc => ?_, fun hc => ?_, of_decide_eq_true h2, of_decide_eq_true h3⟩
  · have := q c hc
    simp only [Bool.and_eq_true, decide_eq_true_eq] at this
    exact ⟨this.1, this.2.1⟩
  · have := q 32 hc
    simp at this
theorem odds_ok : ∀ w ∈ ODDS, okWb w = true := by decide +kernel
structure okRw (n : Nat) (rows : List (List Str)) : Prop where
  ne : rows ≠ []
  len : rows.length ≤ n
  each : ∀ ws ∈ rows, ws.length ≤ n + 1 ∧ ∀ w ∈ ws, okWord w
theorem okRw.fix {n : Nat} {rows : List (List Str)} (h1 : rows.length ≤ n) (h2 : ∀ ws ∈ rows, ws.length ≤ n + 1 ∧ ∀ w ∈ ws, okWord w) (hn : 1 ≤ n) : okRw n (if rows = [] then [[]] else rows) := by
  by_cases c : rows = []
  · rw [if_pos c]
    refine ⟨by simp, by simp; omega, fun ws hw => ?_⟩
    have : ws = [] := by simpa using hw
    subst this
    exact ⟨by simp, fun w hw => by cases hw⟩
  · rw [if_neg c]
    exact ⟨c, h1, h2⟩
theorem rows_to {rows : List (List Str)} {p : Nat} : sliceD (rowsD rows) none (some (p : Int)) = some (rowsD (rows.take p)) := by
  unfold rowsD
  rw [rd_slL, cut_to18, List.map_take]
theorem rows_from {rows : List (List Str)} {p : Nat} : sliceD (rowsD rows) (some (p : Int)) none = some (rowsD (rows.drop p)) := by
  unfold rowsD
  rw [rd_slL, cut_from18, List.map_drop]
theorem rows_two {rows : List (List Str)} {p : Nat} (h : p ≤ rows.length) : sliceD (rowsD rows) (some (p : Int)) (some ((p + 2 : Nat) : Int)) = some (rowsD ((rows.drop p).take 2)) := by
  unfold rowsD
  rw [rd_slL, cut_two18 _ _ (by simpa using h), List.map_take, List.map_drop]
theorem words_to {ws : List Str} {p : Nat} : sliceD (wsD ws) none (some (p : Int)) = some (wsD (ws.take p)) := by
  unfold wsD
  rw [rd_slL, cut_to18, List.map_take]
theorem words_from {ws : List Str} {p : Nat} : sliceD (wsD ws) (some (p : Int)) none = some (wsD (ws.drop p)) := by
  unfold wsD
  rw [rd_slL, cut_from18, List.map_drop]
theorem rows_rev {rows : List (List Str)} : revD (rowsD rows) = some (rowsD rows.reverse) := by
  unfold rowsD
  rw [rd_revL, List.map_reverse]
theorem add_l18 {xs ys : List D} (h : xs.length + ys.length ≤ 1000000) : addD (.lst xs) (.lst ys) = some (.lst (xs ++ ys)) := by
  unfold addD
  dsimp only
  rw [if_pos (size_le (by omega))]
theorem rows_add {a b : List (List Str)} (h : a.length + b.length ≤ 1000) : addD (rowsD a) (rowsD b) = some (rowsD (a ++ b)) := by
  unfold rowsD
  rw [add_l18 (by simp; omega), List.map_append]
theorem words_add {a b : List Str} (h : a.length + b.length ≤ 1000) : addD (wsD a) (wsD b) = some (wsD (a ++ b)) := by
  unfold wsD
  rw [add_l18 (by simp; omega), List.map_append]
theorem rows_one (ws : List Str) : D.lst [wsD ws] = rowsD [ws] := rfl
theorem rows_len {rows : List (List Str)} : lenD [rowsD rows] = some (.int (rows.length : Int)) := by
  show some (D.int ((rows.map fun ws => D.lst (ws.map .str)).length : Int)) = _
  rw [List.length_map]
theorem words_len {ws : List Str} : lenD [wsD ws] = some (.int (ws.length : Int)) := by
  show some (D.int ((ws.map D.str).length : Int)) = _
  rw [List.length_map]
theorem rows_at {rows : List (List Str)} {p : Nat} {ws : List Str} (h : rows[p]? = some ws) : ixD (rowsD rows) (.int (p : Int)) = some (wsD ws) := by
  show atI (rows.map fun ws => D.lst (ws.map .str)) (p : Int) = _
  rw [atI_nat (by omega), Int.toNat_natCast, List.getElem?_map, h]
  rfl
theorem rows_mul {ws : List Str} {k : Nat} (h : k ≤ 2) : mulD (rowsD [ws]) (.int (k : Int)) = some (rowsD (List.replicate k ws)) := by
  unfold rowsD mulD
  dsimp only
  have b : b62 (k : Int) := b62_of (by omega) (by omega)
  unfold b62 at b
  refine Eq.trans (if_pos ⟨b.1, b.2, size_le (by simp; omega)⟩) ?_
  have : k = 0 ∨ k = 1 ∨ k = 2 := by omega
  rcases this with rfl | rfl | rfl <;> rfl
theorem rows_or {rows : List (List Str)} {h : Rho → Out D} {ρ : Rho} (e : h ρ = .ok (rowsD [[]]) ρ) : (match rowsD rows with
  | .lst ds => if ds.isEmpty = true then h ρ else .ok (.lst ds) ρ
  | _ => .stuck) = .ok (rowsD (if rows = [] then [[]] else rows)) ρ := by
  unfold rowsD at e ⊢
  cases rows with
  | nil => simpa using e
  | cons a l => simp
end Lt

/-! # A line changed: a turn -/
namespace Lt
open PySem PySem.Spec L2
noncomputable def modT : Rho → Fl := sSeq (sPar 7 8 (aCons (eFnO f__law_taken (arSlot 1 (arVal (eCall lenD (aCons (eVar 5) (aNil))) (arNil)))) (aCons (eFnO f__law_taken (arSlot 1 (arVal (eC (.int 6)) (arNil)))) (aNil)))) (sSeq (sSet 9 (eBin ixD (eVar 5) (eVar 7))) (sSeq (sSet 10 (eFnO f__law_taken (arSlot 1 (arVal (eBin addD (eCall lenD (aCons (eVar 9) (aNil))) (eC (.int 1))) (arNil))))) (sSeq (sSet 11 (eIf (eTest (eBin neD (eVar 8) (eC (.int 1)))) (eLst (aCons (eBin ixD (eVar 2) (eFnO f__law_taken (arSlot 1 (arVal (eCall lenD (aCons (eVar 2) (aNil))) (arNil))))) (aNil))) (eLst (aNil)))) (sSeq (sIf (eTest (eBin ltD (eVar 8) (eC (.int 4)))) (sSeq (sSet 9 (eBin addD (eBin addD (eSlice (eVar 9) (oNone) (oSome (eVar 10))) (eVar 11)) (eSlice (eVar 9) (oSome (eBin addD (eVar 10) (eCall intD (aCons (eBin (inD false) (eVar 8) (eTup (aCons (eC (.int 1)) (aCons (eC (.int 2)) (aNil))))) (aNil))))) (oNone)))) (sSet 5 (eBin addD (eBin addD (eSlice (eVar 5) (oNone) (oSome (eVar 7))) (eLst (aCons (eVar 9) (aNil)))) (eSlice (eVar 5) (oSome (eBin addD (eVar 7) (eC (.int 1)))) (oNone))))) (sIf (eTest (eBin eqD (eVar 8) (eC (.int 4)))) (sSeq (sSet 12 (eBin mulD (eLst (aCons (eVar 9) (aNil))) (eBin mulD (eC (.int 2)) (eFnO f__law_taken (arSlot 1 (arVal (eC (.int 2)) (arNil))))))) (sSet 5 (eBin addD (eBin addD (eSlice (eVar 5) (oNone) (oSome (eVar 7))) (eVar 12)) (eSlice (eVar 5) (oSome (eBin addD (eVar 7) (eC (.int 1)))) (oNone))))) (sSeq (sSet 13 (eUn revD (eSlice (eVar 5) (oSome (eVar 7)) (oSome (eBin addD (eVar 7) (eC (.int 2))))))) (sSet 5 (eBin addD (eBin addD (eSlice (eVar 5) (oNone) (oSome (eVar 7))) (eVar 13)) (eSlice (eVar 5) (oSome (eBin addD (eVar 7) (eC (.int 2)))) (oNone))))))) (sSet 5 (eOrL (eVar 5) (eLst (aCons (eLst (aNil)) (aNil)))))))))
def oddsD : D := .lst (ODDS.map .str)
theorem pick_odd {u : Int} (h1 : 0 ≤ u) (h2 : u < 16) : ∃ w, atI (ODDS.map D.str) u = some (.str w) ∧ okWord w := by
  have hl : u.toNat < ODDS.length := by show u.toNat < 16; omega
  refine ⟨ODDS[u.toNat], ?_, okWord_of (odds_ok _ (List.getElem_mem hl))⟩
  rw [atI_nat h1, List.getElem?_map, List.getElem?_eq_getElem hl]
  rfl
theorem more_ok {r : Rw} (hr : r.Ok) {v : Int} {s0 s3 s4 s5 s6 s7 s9 s10 s11 s12 s13 s14 s15 : Lt.S} : ∃ (more : List Str) (r4 : Rw), r4.Ok ∧ more.length ≤ 1 ∧ (∀ w ∈ more, okWord w) ∧
    eIf (eTest (eBin neD (eVar 8) (eC (.int 1)))) (eLst (aCons (eBin ixD (eVar 2) (eFnO f__law_taken (arSlot 1 (arVal (eCall lenD (aCons (eVar 2) (aNil))) (arNil))))) (aNil))) (eLst (aNil)) [s0, .own none (.lst r.l), .val oddsD, s3, s4, s5, s6, s7, .val (.int v), s9, s10, s11, s12, s13, s14, s15] =
      .ok (wsD more) [s0, .own none (.lst r4.l), .val oddsD, s3, s4, s5, s6, s7, .val (.int v), s9, s10, s11, s12, s13, s14, s15] := by
  have en : neD (.int v) (.int 1) = some (.bl (!decide (v = 1))) := by
    rw [rd_ne (okP_shp (n := 0) rfl (by decide)) (okP_shp (n := 0) rfl (by decide)), eqB_int]
  by_cases c : v = 1
  · rw [decide_eq_true c] at en
    refine ⟨[], r, hr, by simp, fun w hw => (by cases hw), ?_⟩
    unfold wsD
    generalize oddsD = O at *
    simp [en]
  · rw [decide_eq_false c] at en
    obtain ⟨t1, t2, t3, t4⟩ := taken_ok hr (k := 16) (by decide)
    have a1 := law_taken_ok hr (k := 16) (by decide) (by decide)
    generalize taken r 16 = t at *
    obtain ⟨u, r1⟩ := t
    dsimp only at t1 t2 t3 a1
    obtain ⟨w, e, ow⟩ := pick_odd t2 t3
    have ix : ixD oddsD (.int u) = some (.str w) := e
    have len : lenD [oddsD] = some (.int 16) := rfl
    refine ⟨[w], r1, t1, by simp, fun w' hw => (by have : w' = w := by simpa using hw
                                                   subst this; exact ow), ?_⟩
    unfold wsD
    generalize oddsD = O at *
    simp [en, a1, ix, len]
theorem kind_in {v : Int} : inD false (.int v) (.tup [.int 1, .int 2]) = some (.bl (decide (v = 1 ∨ v = 2))) := by
  have := rd_inT false v [1, 2]
  simp only [List.map_cons, List.map_nil] at this
  rw [this]
  simp
theorem mem_cut {ws : List Str} {more : List Str} {a b : Nat} (h : ∀ w ∈ ws, okWord w) (h2 : ∀ w ∈ more, okWord w) : ∀ w ∈ ws.take a ++ more ++ ws.drop b, okWord w := by
  intro w hw
  rcases List.mem_append.mp hw with hw | hw
  · rcases List.mem_append.mp hw with hw | hw
    · exact h w (List.mem_of_mem_take hw)
    · exact h2 w hw
  · exact h w (List.mem_of_mem_drop hw)
theorem rows_cut {n : Nat} {rows new : List (List Str)} {a b : Nat} (h : okRw n rows) (hn : new.length ≤ 1 + (b - a)) (hab : a ≤ b) (hb : b ≤ rows.length ∨ (a + new.length ≤ rows.length ∧ rows.length ≤ b)) (h2 : ∀ ws ∈ new, ws.length ≤ n + 2 ∧ ∀ w ∈ ws, okWord w) :
    okRw (n + 1) (if rows.take a ++ new ++ rows.drop b = [] then [[]] else rows.take a ++ new ++ rows.drop b) := by
  refine okRw.fix ?_ (fun ws hw => ?_) (by omega)
  · have := h.len
    rw [List.length_append, List.length_append, List.length_take, List.length_drop]
    rcases hb with hb | hb <;> omega
  · rcases List.mem_append.mp hw with hw | hw
    · rcases List.mem_append.mp hw with hw | hw
      · have := h.each ws (List.mem_of_mem_take hw)
        exact ⟨by omega, this.2⟩
      · exact h2 ws hw
    · have := h.each ws (List.mem_of_mem_drop hw)
      exact ⟨by omega, this.2⟩
theorem or0 {W : List (List Str)} {s0 s1 s2 s3 s4 s6 s7 s8 s9 s10 s11 s12 s13 s14 s15 : Lt.S} : sSet 5 (eOrL (eVar 5) (eLst (aCons (eLst (aNil)) (aNil)))) [s0, s1, s2, s3, s4, .val (rowsD W), s6, s7, s8, s9, s10, s11, s12, s13, s14, s15] =
    .nx [s0, s1, s2, s3, s4, .val (rowsD (if W = [] then [[]] else W)), s6, s7, s8, s9, s10, s11, s12, s13, s14, s15] := by
  unfold rowsD
  cases W with
  | nil => simp
  | cons a l => simp
theorem modT_ok {n : Nat} (hn : n ≤ 10) {rows : List (List Str)} {r : Rw} (h : okRw n rows) (hr : r.Ok) {s0 s3 s4 s6 s7 s8 s9 s10 s11 s12 s13 s14 s15 : Lt.S} : ∃ (rows' : List (List Str)) (r' : Rw) (t7 t8 t9 t10 t11 t12 t13 : Lt.S), okRw (n + 1) rows' ∧ r'.Ok ∧
    modT [s0, .own none (.lst r.l), .val oddsD, s3, s4, .val (rowsD rows), s6, s7, s8, s9, s10, s11, s12, s13, s14, s15] = .nx [s0, .own none (.lst r'.l), .val oddsD, s3, s4, .val (rowsD rows'), s6, t7, t8, t9, t10, t11, t12, t13, s14, s15] := by
  have hl := h.len
  have hp : 0 < rows.length := by
    cases rows with
    | nil => exact absurd rfl h.ne
    | cons a l => simp
  obtain ⟨t1, t2, t3, t4⟩ := taken_ok hr (k := (rows.length : Int)) (by omega)
  have a1 := law_taken_ok hr (k := (rows.length : Int)) (by omega) (by omega)
  generalize taken r (rows.length : Int) = t at *
  obtain ⟨u, r1⟩ := t
  dsimp only at t1 t2 t3 a1
  clear t4
  obtain ⟨p, rfl⟩ : ∃ p : Nat, u = (p : Int) := ⟨u.toNat, by omega⟩
  have pl : p < rows.length := by omega
  obtain ⟨v1, v2, v3, v4⟩ := taken_ok t1 (k := 6) (by decide)
  have a2 := law_taken_ok t1 (k := 6) (by decide) (by decide)
  generalize taken r1 6 = t at *
  obtain ⟨v, r2⟩ := t
  dsimp only at v1 v2 v3 a2
  clear v4
  obtain ⟨ws, ew⟩ : ∃ ws, rows[p]? = some ws := ⟨rows[p], List.getElem?_eq_getElem pl⟩
  have ha := rows_at ew
  obtain ⟨wl, wo⟩ := h.each ws (List.mem_of_getElem? ew)
  obtain ⟨x1, x2, x3, x4⟩ := taken_ok v1 (k := (ws.length : Int) + 1) (by omega)
  have a3 := law_taken_ok v1 (k := (ws.length : Int) + 1) (by omega) (by omega)
  generalize taken r2 ((ws.length : Int) + 1) = t at *
  obtain ⟨sp, r3⟩ := t
  dsimp only at x1 x2 x3 a3
  clear x4
  obtain ⟨q, rfl⟩ : ∃ q : Nat, sp = (q : Int) := ⟨sp.toNat, by omega⟩
  obtain ⟨more, r4, okr4, ml, mo, mm⟩ := more_ok x1 (v := v) (s0 := s0) (s3 := s3) (s4 := s4) (s5 := .val (rowsD rows)) (s6 := s6) (s7 := .val (.int (p : Int))) (s9 := .val (wsD ws)) (s10 := .val (.int (q : Int))) (s11 := s11) (s12 := s12) (s13 := s13) (s14 := s14) (s15 := s15)
  have l5 := rows_len (rows := rows)
  have l9 := words_len (ws := ws)
  have ki := kind_in (v := v)
  have e4 : eqD (.int v) (.int 4) = some (.bl (decide (v = 4))) := by
    rw [rd_eq (okP_shp (n := 0) rfl (by decide)) (okP_shp (n := 0) rfl (by decide)), eqB_int]
  have rt := rows_to (rows := rows) (p := p)
  have rf := rows_from (rows := rows) (p := p + 1)
  have ec : (((p + 1 : Nat)) : Int) = (p : Int) + 1 := by omega
  rw [ec] at rf
  have orr := @or0
  unfold modT
  generalize sSet 5 (eOrL (eVar 5) (eLst (aCons (eLst (aNil)) (aNil)))) = OR at *
  generalize eIf (eTest (eBin neD (eVar 8) (eC (.int 1)))) (eLst (aCons (eBin ixD (eVar 2) (eFnO f__law_taken (arSlot 1 (arVal (eCall lenD (aCons (eVar 2) (aNil))) (arNil))))) (aNil))) (eLst (aNil)) = MM at *
  by_cases c4 : v < 4
  · have wt := words_to (ws := ws) (p := q)
    have ad1 := words_add (a := ws.take q) (b := more) (by rw [List.length_take]; omega)
    have ro := fun ws => rows_one ws
    have key : ∀ b : Nat, (b = 0 ∨ b = 1) → okRw (n + 1) (if rows.take p ++ [ws.take q ++ more ++ ws.drop (q + b)] ++ rows.drop (p + 1) = [] then [[]] else rows.take p ++ [ws.take q ++ more ++ ws.drop (q + b)] ++ rows.drop (p + 1)) := fun b hb => by
      refine rows_cut h (by simp) (by omega) (.inl (by omega)) fun ws' hw => ?_
      have : ws' = ws.take q ++ more ++ ws.drop (q + b) := by simpa using hw
      subst this
      refine ⟨?_, mem_cut wo mo⟩
      rw [List.length_append, List.length_append, List.length_take, List.length_drop]
      omega
    have ad3 := fun W : List Str => rows_add (a := rows.take p) (b := [W]) (by rw [List.length_take]; simp; omega)
    have ad4 := fun W : List Str => rows_add (a := rows.take p ++ [W]) (b := rows.drop (p + 1)) (by rw [List.length_append, List.length_take, List.length_drop]; simp; omega)
    by_cases c12 : v = 1 ∨ v = 2
    · rw [decide_eq_true c12] at ki
      have wf := words_from (ws := ws) (p := q + 1)
      rw [show (((q + 1 : Nat)) : Int) = (q : Int) + 1 by omega] at wf
      have ad2 := words_add (a := ws.take q ++ more) (b := ws.drop (q + 1)) (by rw [List.length_append, List.length_take, List.length_drop]; omega)
      have K1 := key 1 (.inr rfl)
      generalize ws.take q ++ more ++ ws.drop (q + 1) = W at *
      refine ⟨_, r4, .val (.int (p : Int)), .val (.int v), .val (wsD W), .val (.int (q : Int)), .val (wsD more), s12, s13, K1, okr4, ?_⟩
      generalize oddsD = O at *
      simp [l5, a1, a2, ha, l9, a3, mm, c4, wt, ki, wf, ad1, ad2, ro, rt, ad3, rf, ad4, orr, -List.append_assoc]
    · rw [decide_eq_false c12] at ki
      have wf := words_from (ws := ws) (p := q)
      have ad2 := words_add (a := ws.take q ++ more) (b := ws.drop q) (by rw [List.length_append, List.length_take, List.length_drop]; omega)
      have K1 := key 0 (.inl rfl)
      rw [Nat.add_zero] at K1
      generalize ws.take q ++ more ++ ws.drop q = W at *
      refine ⟨_, r4, .val (.int (p : Int)), .val (.int v), .val (wsD W), .val (.int (q : Int)), .val (wsD more), s12, s13, K1, okr4, ?_⟩
      generalize oddsD = O at *
      simp [l5, a1, a2, ha, l9, a3, mm, c4, wt, ki, wf, ad1, ad2, ro, rt, ad3, rf, ad4, orr, -List.append_assoc]
  · by_cases cv : v = 4
    · rw [decide_eq_true cv] at e4
      obtain ⟨y1, y2, y3, y4⟩ := taken_ok okr4 (k := 2) (by decide)
      have a5 := law_taken_ok okr4 (k := 2) (by decide) (by decide)
      generalize taken r4 2 = t at *
      obtain ⟨k, r5⟩ := t
      dsimp only at y1 y2 y3 a5
      clear y4
      have mk : ∃ K : Nat, K ≤ 2 ∧ mulD (.int 2) (.int k) = some (.int (K : Int)) := by
        have : k = 0 ∨ k = 1 := by omega
        rcases this with rfl | rfl
        · exact ⟨0, by omega, by rw [rd_mul, if_pos (by decide)]; rfl⟩
        · exact ⟨2, by omega, by rw [rd_mul, if_pos (by decide)]; rfl⟩
      obtain ⟨K, hK, m1⟩ := mk
      have m2 := rows_mul (ws := ws) hK
      have ad3 := rows_add (a := rows.take p) (b := List.replicate K ws) (by rw [List.length_take]; simp; omega)
      have ad4 := rows_add (a := rows.take p ++ List.replicate K ws) (b := rows.drop (p + 1)) (by rw [List.length_append, List.length_take, List.length_drop]; simp; omega)
      have K1 := rows_cut (new := List.replicate K ws) (a := p) (b := p + 1) h (by simp; omega) (by omega) (.inl (by omega)) fun ws' hw => by
        have := (List.mem_replicate.mp hw).2
        subst this
        exact ⟨by omega, wo⟩
      have ro := rows_one ws
      generalize List.replicate K ws = NEW at *
      refine ⟨_, r5, .val (.int (p : Int)), .val (.int v), .val (wsD ws), .val (.int (q : Int)), .val (wsD more), .val (rowsD NEW), s13, K1, y1, ?_⟩
      generalize oddsD = O at *
      simp [l5, a1, a2, ha, l9, a3, mm, c4, e4, a5, m1, m2, ro, rt, ad3, rf, ad4, orr, -List.append_assoc]
    · rw [decide_eq_false cv] at e4
      have r2 := rows_two (rows := rows) (p := p) (by omega)
      rw [show (((p + 2 : Nat)) : Int) = (p : Int) + 2 by omega] at r2
      have rr := rows_rev (rows := (rows.drop p).take 2)
      have rf2 := rows_from (rows := rows) (p := p + 2)
      rw [show (((p + 2 : Nat)) : Int) = (p : Int) + 2 by omega] at rf2
      have nl : ((rows.drop p).take 2).reverse.length ≤ 2 := by simp; omega
      have ad3 := rows_add (a := rows.take p) (b := ((rows.drop p).take 2).reverse) (by rw [List.length_take]; omega)
      have ad4 := rows_add (a := rows.take p ++ ((rows.drop p).take 2).reverse) (b := rows.drop (p + 2)) (by rw [List.length_append, List.length_take, List.length_drop]; omega)
      have K1 := rows_cut (new := ((rows.drop p).take 2).reverse) (a := p) (b := p + 2) h (by omega) (by omega) (by
        by_cases c : p + 2 ≤ rows.length
        · exact .inl c
        · refine .inr ⟨?_, by omega⟩
          rw [List.length_reverse, List.length_take, List.length_drop]
          omega) fun ws' hw => by
        have := h.each ws' (List.mem_of_mem_drop (List.mem_of_mem_take (List.mem_reverse.mp hw)))
        exact ⟨by omega, this.2⟩
      generalize ((rows.drop p).take 2).reverse = NEW at *
      refine ⟨_, r4, .val (.int (p : Int)), .val (.int v), .val (wsD ws), .val (.int (q : Int)), .val (wsD more), s12, .val (rowsD NEW), K1, okr4, ?_⟩
      generalize oddsD = O at *
      simp [l5, a1, a2, ha, l9, a3, mm, c4, e4, r2, rr, rt, ad3, rf2, ad4, orr, -List.append_assoc]
end Lt

/-! # The law of wrong texts -/
namespace Lt
open PySem PySem.Spec L2
noncomputable def turnV (A : Ads) : Rho → Fl := sSeq (sSetO 4 (oFnO f__law_drawn (arSlot 1 (arNil)))) (sSeq (sSet 5 (eLst (aCons (eBin addD (eLst (aCons (eC (.str (PySem.Str.ofString "front"))) (aNil))) (eLcQ [15] (iSeq (eDget 4 (eC (.str (PySem.Str.ofString "front"))))) (gSet 15) (tYesD) (eCall strD (aCons (eVar 15) (aNil))))) (aCons (eBin addD (eLst (aCons (eC (.str (PySem.Str.ofString "back"))) (aNil))) (eLcQ [15] (iSeq (eDget 4 (eC (.str (PySem.Str.ofString "back"))))) (gSet 15) (tYesD) (eCall strD (aCons (eVar 15) (aNil))))) (aCons (eLst (aCons (eC (.str (PySem.Str.ofString "rule"))) (aCons (eDget 4 (eC (.str (PySem.Str.ofString "rule")))) (aNil)))) (aNil)))))) (sSeq (sFor (iRng1D (aCons (eBin addD (eC (.int 1)) (eFnO f__law_taken (arSlot 1 (arVal (eC (.int 2)) (arNil))))) (aNil))) (gSet 6) modT) (sSeq (sSet 14 (eLcQ [9] (iSeq (eVar 5)) (gSet 9) (tYesD) (eM1 joinD (eC (.str (PySem.Str.ofString " "))) (eVar 9)))) (sIf (eTest (eBin neD (eFn (f__law_refused A) (aCons (eM1 joinD (eC (.str (PySem.Str.ofString "\n"))) (eVar 14)) (aNil))) (eFn f__law_wrong (aCons (eVar 5) (aNil))))) (sRet (eC (.bl false))) (sNext)))))
def rowsP (f b : List Int) (x : Str) : List (List Str) := [sFront :: f.map txI, sBack :: b.map txI, [sRule, x]]
theorem okW_tx : ∀ p ∈ ([1, 2, 3, 4, 5] : List Int), okWb (txI p) = true := by decide +kernel
theorem okW_rule {x : Str} (h : isRule x = true) : okWb x = true := by
  unfold isRule at h
  have h' : x = sAny ∨ x = sAsks ∨ x = sLow := by simpa using h
  rcases h' with rfl | rfl | rfl <;> decide +kernel
theorem okW_head : okWb sFront = true ∧ okWb sBack = true ∧ okWb sRule = true := by decide +kernel
theorem rowsP_ok {f b : List Int} {x : Str} (h : okP3 f b x) : okRw 3 (rowsP f b x) := by
  have fl := okF_len h.f
  have bl := okB_len h.b
  have p15 : ∀ p : Int, 1 ≤ p → p ≤ 5 → okWord (txI p) := fun p h1 h2 => okWord_of (okW_tx p (by
    have : p = 1 ∨ p = 2 ∨ p = 3 ∨ p = 4 ∨ p = 5 := by omega
    rcases this with rfl | rfl | rfl | rfl | rfl <;> decide))
  refine ⟨by simp [rowsP], by simp [rowsP], fun ws hw => ?_⟩
  have : ws = sFront :: f.map txI ∨ ws = sBack :: b.map txI ∨ ws = [sRule, x] := by simpa [rowsP] using hw
  rcases this with rfl | rfl | rfl
  · refine ⟨by simp; omega, fun w hm => ?_⟩
    rcases List.mem_cons.mp hm with rfl | hm
    · exact okWord_of okW_head.1
    · obtain ⟨p, hp, rfl⟩ := List.mem_map.mp hm
      have := okF_mem h.f p hp
      exact p15 p this.1 this.2
  · refine ⟨by simp; omega, fun w hm => ?_⟩
    rcases List.mem_cons.mp hm with rfl | hm
    · exact okWord_of okW_head.2.1
    · obtain ⟨p, hp, rfl⟩ := List.mem_map.mp hm
      have := okB_mem h.b p hp
      exact p15 p this.1 (by omega)
  · refine ⟨by simp, fun w hm => ?_⟩
    have : w = sRule ∨ w = x := by simpa using hm
    rcases this with rfl | rfl
    · exact okWord_of okW_head.2.2
    · exact okWord_of (okW_rule h.x)
theorem lc15 {f b : List Int} {x : Str} (hd : Str) (ps : List Int) (kk : Key) (hk : toKey (.str hd) = some kk) (hv : valD (dRec f b x) kk = some (.tup (ps.map .int))) (hp : ∀ p ∈ ps, 1 ≤ p ∧ p ≤ 5) (hn : ps.length ≤ 10) {s0 s1 s2 s3 s5 s6 s7 s8 s9 s10 s11 s12 s13 s14 s15 : Lt.S} :
    eLcQ [15] (iSeq (eDget 4 (eC (.str hd)))) (gSet 15) (tYesD) (eCall strD (aCons (eVar 15) (aNil))) [s0, s1, s2, s3, .own none (.dk (dRec f b x)), s5, s6, s7, s8, s9, s10, s11, s12, s13, s14, s15] = .ok (wsD (ps.map txI)) [s0, s1, s2, s3, .own none (.dk (dRec f b x)), s5, s6, s7, s8, s9, s10, s11, s12, s13, s14, .no] := by
  have lc := lcD_by (vs := [15]) (gt := gSet 15) (t := tYesD) (ge := eCall strD (aCons (eVar 15) (aNil))) (c := [s0, s1, s2, s3, .own none (.dk (dRec f b x)), s5, s6, s7, s8, s9, s10, s11, s12, s13, s14, .no]) D.int (fun p => [s0, s1, s2, s3, .own none (.dk (dRec f b x)), s5, s6, s7, s8, s9, s10, s11, s12, s13, s14, .val (.int p)]) (fun _ => true) (fun p => .str (txI p)) ps []
    [s0, s1, s2, s3, .own none (.dk (dRec f b x)), s5, s6, s7, s8, s9, s10, s11, s12, s13, s14, s15] rfl (fun p hpm => by
      have pm : p ∈ ([1, 2, 3, 4, 5] : List Int) := by
        have := hp p hpm
        have : p = 1 ∨ p = 2 ∨ p = 3 ∨ p = 4 ∨ p = 5 := by omega
        rcases this with rfl | rfl | rfl | rfl | rfl <;> decide
      have q := (txI_ok p pm).2.2
      have st : strD [.int p] = some (.str (txI p)) := by show (if p.natAbs.log2 < 1920 then some (D.str (toString p)) else none) = _; rw [if_pos q]; rfl
      exact ⟨rfl, rfl, fun _ => by simp [st], rfl⟩) (by rw [sizeLine_eq]; simp; omega)
  have ft : ps.filter (fun _ => true) = ps := by simp
  rw [List.nil_append, ft] at lc
  have e : (ps.map fun p => D.str (txI p)) = (ps.map txI).map D.str := by simp
  rw [e] at lc
  unfold wsD
  generalize ps.map D.int = PD at *
  simp [hk, hv, lc]
theorem ne_pair (p : Option (Nat × Nat)) : neD (pairD p) (pairD p) = some (.bl false) := by
  cases p with
  | none => rw [rd_ne (by decide +kernel) (by decide +kernel)]; exact congrArg (fun x => some (D.bl x)) (by decide +kernel)
  | some z =>
    obtain ⟨a, b⟩ := z
    have o : okP (pairD (some (a, b))) = true := okP_lst (n := 0) rfl (by decide)
    rw [rd_ne o o]
    unfold pairD
    simp
theorem lc14 {rows : List (List Str)} (h : ∀ ws ∈ rows, ws.length ≤ 20 ∧ ∀ w ∈ ws, okWord w) (hn : rows.length ≤ 20) {s0 s1 s2 s3 s4 s6 s7 s8 s9 s10 s11 s12 s13 s14 s15 : Lt.S} :
    eLcQ [9] (iSeq (eVar 5)) (gSet 9) (tYesD) (eM1 joinD (eC (.str (PySem.Str.ofString " "))) (eVar 9)) [s0, s1, s2, s3, s4, .val (rowsD rows), s6, s7, s8, s9, s10, s11, s12, s13, s14, s15] = .ok (.lst ((rows.map (Txt.join spS)).map .str)) [s0, s1, s2, s3, s4, .val (rowsD rows), s6, s7, s8, .no, s10, s11, s12, s13, s14, s15] := by
  have sl : spS.length = 1 := by decide +kernel
  have lc := lcD_by (vs := [9]) (gt := gSet 9) (t := tYesD) (ge := eM1 joinD (eC (.str (PySem.Str.ofString " "))) (eVar 9)) (c := [s0, s1, s2, s3, s4, .val (rowsD rows), s6, s7, s8, .no, s10, s11, s12, s13, s14, s15]) (fun ws => .lst (ws.map .str)) (fun ws => [s0, s1, s2, s3, s4, .val (rowsD rows), s6, s7, s8, .val (.lst (ws.map .str)), s10, s11, s12, s13, s14, s15]) (fun _ => true) (fun ws => .str (Txt.join spS ws)) rows []
    [s0, s1, s2, s3, s4, .val (rowsD rows), s6, s7, s8, s9, s10, s11, s12, s13, s14, s15] rfl (fun ws hw => by
      have j := join_ok (a := spS) (ys := ws) (by
        have := sum_le (n := 10) fun w hm => ((h ws hw).2 w hm).len
        have := (h ws hw).1
        rw [sl]
        omega)
      unfold spS at j
      refine ⟨rfl, rfl, fun _ => ?_, rfl⟩
      unfold spS
      generalize (ws.map D.str) = WS at *
      simp [j]) (by rw [sizeLine_eq]; simp; omega)
  have ft : rows.filter (fun _ => true) = rows := by simp
  rw [List.nil_append, ft] at lc
  have e : (rows.map fun ws => D.str (Txt.join spS ws)) = (rows.map (Txt.join spS)).map D.str := by simp
  rw [e] at lc
  generalize ((rows.map (Txt.join spS)).map D.str) = LN at *
  have is : iSeq (eVar 5) [s0, s1, s2, s3, s4, .val (rowsD rows), s6, s7, s8, s9, s10, s11, s12, s13, s14, s15] = .ok (rows.map fun ws => .lst (ws.map .str)) [s0, s1, s2, s3, s4, .val (rowsD rows), s6, s7, s8, s9, s10, s11, s12, s13, s14, s15] := rfl
  simp only [rd_lc, is, bind_ok, lc]
theorem turnV_ok {A : Ads} {r : Rw} (h : r.Ok) {s0 s3 s4 s5 s6 s7 s8 s9 s10 s11 s12 s13 s14 s15 : Lt.S} : ∃ (r' : Rw) (t4 t5 t6 t7 t8 t9 t10 t11 t12 t13 t14 t15 : Lt.S), r'.Ok ∧
    turnV A [s0, .own none (.lst r.l), .val oddsD, s3, s4, s5, s6, s7, s8, s9, s10, s11, s12, s13, s14, s15] = .nx [s0, .own none (.lst r'.l), .val oddsD, s3, t4, t5, t6, t7, t8, t9, t10, t11, t12, t13, t14, t15] := by
  obtain ⟨⟨okp, ne, okr⟩, _⟩ := drawn_ok h
  have e1 := law_drawn_ok h
  generalize drawnR r = dr at *
  obtain ⟨f, b, x, r1⟩ := dr
  dsimp only at okp ne okr e1
  have fl := okF_len okp.f
  have bl := okB_len okp.b
  have rp := rowsP_ok okp
  have i1 := lc15 (f := f) (b := b) (x := x) sFront f kF rfl (val_frontD _ _ _) (okF_mem okp.f) (by omega) (s0 := s0) (s1 := .own none (.lst r1.l)) (s2 := .val oddsD) (s3 := s3) (s5 := s5) (s6 := s6) (s7 := s7) (s8 := s8) (s9 := s9) (s10 := s10) (s11 := s11) (s12 := s12) (s13 := s13) (s14 := s14) (s15 := s15)
  have i2 := lc15 (f := f) (b := b) (x := x) sBack b kB rfl (val_backD _ _ _) (fun p hp => by have := okB_mem okp.b p hp; omega) (by omega) (s0 := s0) (s1 := .own none (.lst r1.l)) (s2 := .val oddsD) (s3 := s3) (s5 := s5) (s6 := s6) (s7 := s7) (s8 := s8) (s9 := s9) (s10 := s10) (s11 := s11) (s12 := s12) (s13 := s13) (s14 := s14) (s15 := .no)
  have a1 : addD (.lst [.str sFront]) (wsD (f.map txI)) = some (wsD (sFront :: f.map txI)) := words_add (a := [sFront]) (b := f.map txI) (by simp; omega)
  have a2 : addD (.lst [.str sBack]) (wsD (b.map txI)) = some (wsD (sBack :: b.map txI)) := words_add (a := [sBack]) (b := b.map txI) (by simp; omega)
  have vr : valD (dRec f b x) kR = some (.str x) := val_ruleD _ _ _
  have rd : D.lst [wsD (sFront :: f.map txI), wsD (sBack :: b.map txI), .lst [.str sRule, .str x]] = rowsD (rowsP f b x) := rfl
  obtain ⟨q1, q2, q3, q4⟩ := taken_ok okr (k := 2) (by decide)
  have a3 := law_taken_ok okr (k := 2) (by decide) (by decide)
  generalize taken r1 2 = t at *
  obtain ⟨u, r2⟩ := t
  dsimp only at q1 q2 q3 a3
  clear q4
  obtain ⟨ρ', w1, rows, r3, t6, t7, t8, t9, t10, t11, t12, t13, okw, okr3, w2⟩ := for_inv (gt := gSet 6) (body := modT) D.int
    (fun done ρ => ∃ (rows : List (List Str)) (r3 : Rw) (t6 t7 t8 t9 t10 t11 t12 t13 : Lt.S), okRw (3 + done.length) rows ∧ r3.Ok ∧ ρ = [s0, .own none (.lst r3.l), .val oddsD, s3, .own none (.dk (dRec f b x)), .val (rowsD rows), t6, t7, t8, t9, t10, t11, t12, t13, s14, .no]) (rng 0 (1 + u))
    (ρ := [s0, .own none (.lst r2.l), .val oddsD, s3, .own none (.dk (dRec f b x)), .val (rowsD (rowsP f b x)), s6, s7, s8, s9, s10, s11, s12, s13, s14, .no]) ⟨_, _, _, _, _, _, _, _, _, _, rp, q1, rfl⟩ (by
      rintro done a rest ρ e ⟨rows, r3, t6, t7, t8, t9, t10, t11, t12, t13, okw, okr3, rfl⟩
      have dl : done.length ≤ 1 := by
        have := congrArg List.length e
        rw [rng_length] at this
        simp at this
        omega
      obtain ⟨rows', r4, u7, u8, u9, u10, u11, u12, u13, okw', okr4, q⟩ := modT_ok (n := 3 + done.length) (by omega) okw okr3 (s0 := s0) (s3 := s3) (s4 := .own none (.dk (dRec f b x))) (s6 := .val (.int a)) (s7 := t7) (s8 := t8) (s9 := t9) (s10 := t10) (s11 := t11) (s12 := t12) (s13 := t13) (s14 := s14) (s15 := .no)
      refine ⟨_, _, rfl, q, rows', r4, .val (.int a), u7, u8, u9, u10, u11, u12, u13, ?_, okr4, rfl⟩
      rw [List.length_append]
      exact okw')
  subst w2
  have rg : b62 (1 + u) := b62_of (by omega) (by omega)
  have ir := iRange_rng 0 (1 + u)
  have rl : (rng 0 (1 + u)).length ≤ 2 := by rw [rng_length]; omega
  have hr20 : ∀ ws ∈ rows, ws.length ≤ 20 ∧ ∀ w ∈ ws, okWord w := fun ws hw => by
    have := okw.each ws hw
    exact ⟨by omega, this.2⟩
  have hn20 : rows.length ≤ 20 := by have := okw.len; omega
  have lc := lc14 hr20 hn20 (s0 := s0) (s1 := .own none (.lst r3.l)) (s2 := .val oddsD) (s3 := s3) (s4 := .own none (.dk (dRec f b x))) (s6 := t6) (s7 := t7) (s8 := t8) (s9 := t9) (s10 := t10) (s11 := t11) (s12 := t12) (s13 := t13) (s14 := s14) (s15 := .no)
  obtain ⟨ot, or⟩ := textR_ok okw.ne hn20 hr20
  have rf := refused_ok (A := A) ot (fun ws hw => by rw [or] at hw; have := (hr20 ws hw).1; omega)
  rw [or] at rf
  have wr := wrong_ok (rows := rows) ⟨by omega, fun ws hw => ⟨by have := (hr20 ws hw).1; omega, (hr20 ws hw).2⟩⟩
  have np := ne_pair (wrongX rows)
  have nl : nlS.length = 1 := by decide +kernel
  have jt : joinD (.str nlS) (.lst ((rows.map (Txt.join spS)).map .str)) = some (.str (textR rows)) := join_ok (by
    have := sum_le (ys := rows.map (Txt.join spS)) (n := 220) fun line hm => by
      obtain ⟨ws, hw, rfl⟩ := List.mem_map.mp hm
      exact (line_len (hr20 ws hw).2 (hr20 ws hw).1).2
    rw [nl]
    simp at this ⊢
    omega)
  unfold nlS at jt
  unfold sFront at i1 a1 rd
  unfold sBack at i2 a2 rd
  unfold sRule at rd
  unfold kR at vr
  refine ⟨r3, .own none (.dk (dRec f b x)), .val (rowsD rows), t6, t7, t8, .no, t10, t11, t12, t13, .val (.lst ((rows.map (Txt.join spS)).map .str)), .no, okr3, ?_⟩
  unfold turnV
  generalize modT = MT at *
  generalize eLcQ [15] (iSeq (eDget 4 (eC (.str (PySem.Str.ofString "front"))))) (gSet 15) (tYesD) (eCall strD (aCons (eVar 15) (aNil))) = LF at *
  generalize eLcQ [15] (iSeq (eDget 4 (eC (.str (PySem.Str.ofString "back"))))) (gSet 15) (tYesD) (eCall strD (aCons (eVar 15) (aNil))) = LB at *
  generalize eLcQ [9] (iSeq (eVar 5)) (gSet 9) (tYesD) (eM1 joinD (eC (.str (PySem.Str.ofString " "))) (eVar 9)) = LJ at *
  generalize pairD (wrongX rows) = PW at *
  generalize ((rows.map (Txt.join spS)).map D.str) = LN at *
  generalize textR rows = TX at *
  generalize oddsD = O at *
  generalize dRec f b x = DR at *
  simp [e1, i1, i2, a1, a2, vr, rd, a3, rg, ir, w1, lc, jt, rf, wr, np, -rd_rng1, -rd_rng2, rd_rng1b, rd_rng2b]
noncomputable def gb_law (A : Ads) : Rho → Fl :=
  sSeq (sSetO 1 (oLst (aCons (eVar 0) (aCons (eC (.int 0)) (aCons (eC (.int 128)) (aCons (eC (.int 0)) (aNil))))))) (sSeq (sSet 2 (eLst (aCons (eC (.str (PySem.Str.ofString "front"))) (aCons (eC (.str (PySem.Str.ofString "back"))) (aCons (eC (.str (PySem.Str.ofString "rule"))) (aCons (eC (.str (PySem.Str.ofString "any"))) (aCons (eC (.str (PySem.Str.ofString "low"))) (aCons (eC (.str (PySem.Str.ofString "asks"))) (aCons (eC (.str (PySem.Str.ofString "0"))) (aCons (eC (.str (PySem.Str.ofString "1"))) (aCons (eC (.str (PySem.Str.ofString "2"))) (aCons (eC (.str (PySem.Str.ofString "3"))) (aCons (eC (.str (PySem.Str.ofString "4"))) (aCons (eC (.str (PySem.Str.ofString "5"))) (aCons (eC (.str (PySem.Str.ofString "6"))) (aCons (eC (.str (PySem.Str.ofString "01"))) (aCons (eC (.str (PySem.Str.ofString "-1"))) (aCons (eC (.str (PySem.Str.ofString "x"))) (aNil))))))))))))))))))) (sSeq (sFor (iRng1D (aCons (eC (.int 8)) (aNil))) (gSet 3) (sSeq (sSetO 4 (oFnO f__law_drawn (arSlot 1 (arNil)))) (sSeq (sSet 5 (eLst (aCons (eBin addD (eLst (aCons (eC (.str (PySem.Str.ofString "front"))) (aNil))) (eLcQ [15] (iSeq (eDget 4 (eC (.str (PySem.Str.ofString "front"))))) (gSet 15) (tYesD) (eCall strD (aCons (eVar 15) (aNil))))) (aCons (eBin addD (eLst (aCons (eC (.str (PySem.Str.ofString "back"))) (aNil))) (eLcQ [15] (iSeq (eDget 4 (eC (.str (PySem.Str.ofString "back"))))) (gSet 15) (tYesD) (eCall strD (aCons (eVar 15) (aNil))))) (aCons (eLst (aCons (eC (.str (PySem.Str.ofString "rule"))) (aCons (eDget 4 (eC (.str (PySem.Str.ofString "rule")))) (aNil)))) (aNil)))))) (sSeq (sFor (iRng1D (aCons (eBin addD (eC (.int 1)) (eFnO f__law_taken (arSlot 1 (arVal (eC (.int 2)) (arNil))))) (aNil))) (gSet 6) (sSeq (sPar 7 8 (aCons (eFnO f__law_taken (arSlot 1 (arVal (eCall lenD (aCons (eVar 5) (aNil))) (arNil)))) (aCons (eFnO f__law_taken (arSlot 1 (arVal (eC (.int 6)) (arNil)))) (aNil)))) (sSeq (sSet 9 (eBin ixD (eVar 5) (eVar 7))) (sSeq (sSet 10 (eFnO f__law_taken (arSlot 1 (arVal (eBin addD (eCall lenD (aCons (eVar 9) (aNil))) (eC (.int 1))) (arNil))))) (sSeq (sSet 11 (eIf (eTest (eBin neD (eVar 8) (eC (.int 1)))) (eLst (aCons (eBin ixD (eVar 2) (eFnO f__law_taken (arSlot 1 (arVal (eCall lenD (aCons (eVar 2) (aNil))) (arNil))))) (aNil))) (eLst (aNil)))) (sSeq (sIf (eTest (eBin ltD (eVar 8) (eC (.int 4)))) (sSeq (sSet 9 (eBin addD (eBin addD (eSlice (eVar 9) (oNone) (oSome (eVar 10))) (eVar 11)) (eSlice (eVar 9) (oSome (eBin addD (eVar 10) (eCall intD (aCons (eBin (inD false) (eVar 8) (eTup (aCons (eC (.int 1)) (aCons (eC (.int 2)) (aNil))))) (aNil))))) (oNone)))) (sSet 5 (eBin addD (eBin addD (eSlice (eVar 5) (oNone) (oSome (eVar 7))) (eLst (aCons (eVar 9) (aNil)))) (eSlice (eVar 5) (oSome (eBin addD (eVar 7) (eC (.int 1)))) (oNone))))) (sIf (eTest (eBin eqD (eVar 8) (eC (.int 4)))) (sSeq (sSet 12 (eBin mulD (eLst (aCons (eVar 9) (aNil))) (eBin mulD (eC (.int 2)) (eFnO f__law_taken (arSlot 1 (arVal (eC (.int 2)) (arNil))))))) (sSet 5 (eBin addD (eBin addD (eSlice (eVar 5) (oNone) (oSome (eVar 7))) (eVar 12)) (eSlice (eVar 5) (oSome (eBin addD (eVar 7) (eC (.int 1)))) (oNone))))) (sSeq (sSet 13 (eUn revD (eSlice (eVar 5) (oSome (eVar 7)) (oSome (eBin addD (eVar 7) (eC (.int 2))))))) (sSet 5 (eBin addD (eBin addD (eSlice (eVar 5) (oNone) (oSome (eVar 7))) (eVar 13)) (eSlice (eVar 5) (oSome (eBin addD (eVar 7) (eC (.int 2)))) (oNone))))))) (sSet 5 (eOrL (eVar 5) (eLst (aCons (eLst (aNil)) (aNil))))))))))) (sSeq (sSet 14 (eLcQ [9] (iSeq (eVar 5)) (gSet 9) (tYesD) (eM1 joinD (eC (.str (PySem.Str.ofString " "))) (eVar 9)))) (sIf (eTest (eBin neD (eFn (f__law_refused A) (aCons (eM1 joinD (eC (.str (PySem.Str.ofString "\n"))) (eVar 14)) (aNil))) (eFn f__law_wrong (aCons (eVar 5) (aNil))))) (sRet (eC (.bl false))) (sNext))))))) (sRet (eAnd (eBin eqD (eFn (f__law_refused A) (aCons (eC (.str (PySem.Str.ofString ""))) (aNil))) (eLst (aCons (eC (.int 1)) (aCons (eC (.int 1)) (aNil))))) (eFnO (f_planEq A) (arVal (eFrz (oMake (f_Plan2 A) A.CPlan (aCons (eTup (aNil)) (aCons (eTup (aNil)) (aCons (eC (.str (PySem.Str.ofString "any"))) (aNil)))))) (arVal (eFn (f_read A) (aCons (eC (.str (PySem.Str.ofString "front\nback\nrule any"))) (aNil))) (arNil))))))))
theorem gb_law_is (A : Ads) : gb_law A = (sSeq (sSetO 1 (oLst (aCons (eVar 0) (aCons (eC (.int 0)) (aCons (eC (.int 128)) (aCons (eC (.int 0)) (aNil))))))) (sSeq (sSet 2 (eLst (aCons (eC (.str (PySem.Str.ofString "front"))) (aCons (eC (.str (PySem.Str.ofString "back"))) (aCons (eC (.str (PySem.Str.ofString "rule"))) (aCons (eC (.str (PySem.Str.ofString "any"))) (aCons (eC (.str (PySem.Str.ofString "low"))) (aCons (eC (.str (PySem.Str.ofString "asks"))) (aCons (eC (.str (PySem.Str.ofString "0"))) (aCons (eC (.str (PySem.Str.ofString "1"))) (aCons (eC (.str (PySem.Str.ofString "2"))) (aCons (eC (.str (PySem.Str.ofString "3"))) (aCons (eC (.str (PySem.Str.ofString "4"))) (aCons (eC (.str (PySem.Str.ofString "5"))) (aCons (eC (.str (PySem.Str.ofString "6"))) (aCons (eC (.str (PySem.Str.ofString "01"))) (aCons (eC (.str (PySem.Str.ofString "-1"))) (aCons (eC (.str (PySem.Str.ofString "x"))) (aNil))))))))))))))))))) (sSeq (sFor (iRng1D (aCons (eC (.int 8)) (aNil))) (gSet 3) (turnV A)) (sRet (eAnd (eBin eqD (eFn (f__law_refused A) (aCons (eC (.str (PySem.Str.ofString ""))) (aNil))) (eLst (aCons (eC (.int 1)) (aCons (eC (.int 1)) (aNil))))) (eFnO (f_planEq A) (arVal (eFrz (oMake (f_Plan2 A) A.CPlan (aCons (eTup (aNil)) (aCons (eTup (aNil)) (aCons (eC (.str (PySem.Str.ofString "any"))) (aNil)))))) (arVal (eFn (f_read A) (aCons (eC (.str (PySem.Str.ofString "front\nback\nrule any"))) (aNil))) (arNil))))))))) := by
  unfold gb_law turnV modT
  rfl
theorem rowsOf_no : okText (PySem.Str.ofString "") ∧ rowsOf (PySem.Str.ofString "") = [[]] := by
  have e : PySem.Str.ofString "" = textR [[]] := by decide +kernel
  rw [e]
  exact textR_ok (by simp) (by simp) (fun ws hw => by
    have : ws = [] := by simpa using hw
    subst this
    exact ⟨by simp, fun w hw => by cases hw⟩)
theorem rowsOf_any : okText (PySem.Str.ofString "front\nback\nrule any") ∧ rowsOf (PySem.Str.ofString "front\nback\nrule any") = rowsP [] [] sAny := by
  have e : PySem.Str.ofString "front\nback\nrule any" = textR (rowsP [] [] sAny) := by decide +kernel
  rw [e]
  have h := rowsP_ok (f := []) (b := []) (x := sAny) ⟨by decide, by decide, by decide +kernel⟩
  exact textR_ok h.ne (by have := h.len; omega) fun ws hw => by
    have := h.each ws hw
    exact ⟨by omega, this.2⟩
theorem eq11 : eqD (.lst [.int 1, .int 1]) (.lst [.int 1, .int 1]) = some (.bl true) := by
  have o : okP (.lst [.int 1, .int 1]) = true := okP_lst (n := 0) rfl (by decide)
  rw [rd_eq o o]
  simp
theorem eq_law (A : Ads) : ∀ ds, f_law ds ≠ .stuck → finP (gb_law A (ds.map Lt.S.val ++ List.replicate (16 - ds.length) Lt.S.no)) = f_law ds := by
  refine P1.all fun d h => ?_
  split at h
  · rename_i ns
    split at h
    · rename_i hz
      rw [if_pos hz]
      obtain ⟨ρ', w1, r', s3, s4, s5, s6, s7, s8, s9, s10, s11, s12, s13, s14, s15, hr', w2⟩ := for_inv (gt := gSet 3) (body := turnV A) D.int
        (fun done ρ => ∃ (r : Rw) (s3 s4 s5 s6 s7 s8 s9 s10 s11 s12 s13 s14 s15 : Lt.S), r.Ok ∧ ρ = [.val (.scr ns), .own none (.lst r.l), .val oddsD, s3, s4, s5, s6, s7, s8, s9, s10, s11, s12, s13, s14, s15]) (rng 0 8)
        (ρ := [.val (.scr ns), .own none (.lst (Rw.l ⟨ns, 0, 128, 0⟩)), .val oddsD, .no, .no, .no, .no, .no, .no, .no, .no, .no, .no, .no, .no, .no]) ⟨_, _, _, _, _, _, _, _, _, _, _, _, _, _, (⟨by show (0 : Int) ≤ 0; decide, by show (0 : Int) ≤ 128 ∧ (128 : Int) < 2147483647; decide, by show (0 : Int) ≤ 0; decide⟩ : Rw.Ok ⟨ns, 0, 128, 0⟩), rfl⟩ (by
          rintro done a rest ρ e ⟨r, s3, s4, s5, s6, s7, s8, s9, s10, s11, s12, s13, s14, s15, hr, rfl⟩
          obtain ⟨r', t4, t5, t6, t7, t8, t9, t10, t11, t12, t13, t14, t15, hr', q⟩ := turnV_ok (A := A) (r := r) hr (s0 := .val (.scr ns)) (s3 := .val (.int a)) (s4 := s4) (s5 := s5) (s6 := s6) (s7 := s7) (s8 := s8) (s9 := s9) (s10 := s10) (s11 := s11) (s12 := s12) (s13 := s13) (s14 := s14) (s15 := s15)
          exact ⟨_, _, rfl, q, r', .val (.int a), t4, t5, t6, t7, t8, t9, t10, t11, t12, t13, t14, t15, hr', rfl⟩)
      subst w2
      have rg : b62 8 := b62_of (by decide) (by decide)
      have ir := iRange_rng 0 8
      have okp : okP3 [] [] sAny := ⟨by decide, by decide, by decide +kernel⟩
      have pp := Plan2_ok (A := A) okp
      have pe := planEq_ok (A := A) okp okp
      simp only [decide_true, Bool.and_self] at pe
      have rn := refused_ok (A := A) rowsOf_no.1 (by
        rw [rowsOf_no.2]
        intro ws hw
        have : ws = [] := by simpa using hw
        subst this
        simp)
      have wx : pairD (wrongX [[]]) = .lst [.int 1, .int 1] := by rfl
      rw [rowsOf_no.2, wx] at rn
      have ra := read_okX (A := A) rowsOf_any.1 (f := []) (b := []) (x := sAny) (by
        rw [rowsOf_any.2]
        intro ws hw
        have := (rowsP_ok okp).each ws hw
        omega) (by rw [rowsOf_any.2]; decide +kernel)
      have e11 := eq11
      rw [gb_law_is]
      generalize turnV A = B at *
      have e0 : Rw.l ⟨ns, 0, 128, 0⟩ = [.scr ns, .int 0, .int 128, .int 0] := rfl
      rw [e0] at w1
      have od : oddsD = .lst (ODDS.map .str) := rfl
      unfold ODDS at od
      simp only [List.map_cons, List.map_nil] at od
      rw [od] at w1
      unfold sAny at pp pe ra
      simp only [List.map_nil] at pp
      simp [rg, ir, w1, rn, e11, pp, frz_oPlan, ra, pe, -rd_rng1, -rd_rng2, rd_rng1b, rd_rng2b]
    · exact absurd rfl h
  · exact absurd rfl h
end Lt

set_option maxHeartbeats 2000000
namespace Lt
open PySem PySem.Spec L2
def top (i : Nat) : Stmt := PySem.Challenge.pw_losttickets_k18_texts_refused.main.body.getD i (.Pass ⟨0, 0, 0, 0⟩)
section
variable {P : Program} {w : World} {K : PySem.W.Frag} {mg : Str → Option Value} {base : Heap} {A : Ads}
abbrev s_is_whole : Stmt := top 7
theorem sc_is_whole : FnScope ["value"] ["value"] (defScope s_is_whole) := ⟨rfl, rfl, rfl, by decide +kernel, rfl, by decide +kernel, by decide +kernel⟩
theorem dv_is_whole (b_bool : mg "bool" = none) (b_int : mg "int" = none) (b_isinstance : mg "isinstance" = none) {f : Addr} (cdv : Value) (A0 : Around) (outer : List Env) (s : Shared) (H : Hp) (E : XK) (m : Fm) (hx : m.ex = none) (hr : Room 1 (A0.deeper (PyProof.Rows.envOfC "is_whole" (defScope s_is_whole) s.heap.objs.size f cdv))) : DB (cxOf (L2.CX P w) P w K mg base ["value"] "is_whole" (defScope s_is_whole) f cdv A0 outer s H E) m (WD E) (defBody s_is_whole) (gb_is_whole) :=
  b_one (s_ret (d_and (d_isi (by rfl) b_isinstance (by rfl) b_int rfl (ha := d_var 0)) (d_one (d_not (d_isi (by rfl) b_isinstance (by rfl) b_bool rfl (ha := d_var 0))))))
theorem ok_is_whole (b_bool : mg "bool" = none) (b_int : mg "int" = none) (b_isinstance : mg "isinstance" = none) {f : Addr} {fd : FuncData} (Fd : Fun K "is_whole" "is_whole" s_is_whole f fd) : FnOk P w K mg base (L2.CX P w) 2 f fd ["value"] (spF K (pureF f_is_whole)) :=
  fn_pure Fd sc_is_whole (P1.len) ⟨gb_is_whole, fun cdv A0 outer s H E m hx hr => dv_is_whole b_bool b_int b_isinstance cdv A0 outer s H E m hx hr, eq_is_whole⟩
abbrev s_is_within : Stmt := top 8
theorem sc_is_within : FnScope ["value", "low", "high"] ["value", "low", "high"] (defScope s_is_within) := ⟨rfl, rfl, rfl, by decide +kernel, rfl, by decide +kernel, by decide +kernel⟩
theorem dv_is_within (c_is_whole : Cal P w K mg base "is_whole" 2 (pureF f_is_whole)) {f : Addr} (cdv : Value) (A0 : Around) (outer : List Env) (s : Shared) (H : Hp) (E : XK) (m : Fm) (hx : m.ex = none) (hr : Room 2 (A0.deeper (PyProof.Rows.envOfC "is_within" (defScope s_is_within) s.heap.objs.size f cdv))) : DB (cxOf (L2.CX P w) P w K mg base ["value", "low", "high"] "is_within" (defScope s_is_within) f cdv A0 outer s H E) m (WD E) (defBody s_is_within) (gb_is_within) :=
  b_one (s_ret (d_and (d_callC c_is_whole hr (takes_of rfl rfl rfl rfl) (l_cons (d_var 0) (l_nil))) (d_one (e_lele (d_var 1) (d_var 0) (d_var 2)))))
theorem ok_is_within (c_is_whole : Cal P w K mg base "is_whole" 2 (pureF f_is_whole)) {f : Addr} {fd : FuncData} (Fd : Fun K "is_within" "is_within" s_is_within f fd) : FnOk P w K mg base (L2.CX P w) 3 f fd ["value", "low", "high"] (spF K (pureF f_is_within)) :=
  fn_pure Fd sc_is_within (P3.len) ⟨gb_is_within, fun cdv A0 outer s H E m hx hr => dv_is_within c_is_whole cdv A0 outer s H E m hx hr, eq_is_within⟩
abbrev s_are_places : Stmt := top 15
theorem sc_are_places : FnScope ["value", "many", "last", "place", "one", "other"] ["value", "many", "last"] (defScope s_are_places) := ⟨rfl, rfl, rfl, by decide +kernel, rfl, by decide +kernel, by decide +kernel⟩
theorem dv_are_places (b_all : mg "all" = none) (b_isinstance : mg "isinstance" = none) (b_len : mg "len" = none) (b_tuple : mg "tuple" = none) (b_zip : mg "zip" = none) (c_is_within : Cal P w K mg base "is_within" 3 (pureF f_is_within)) {f : Addr} (cdv : Value) (A0 : Around) (outer : List Env) (s : Shared) (H : Hp) (E : XK) (m : Fm) (hx : m.ex = none) (hr : Room 3 (A0.deeper (PyProof.Rows.envOfC "are_places" (defScope s_are_places) s.heap.objs.size f cdv))) : DB (cxOf (L2.CX P w) P w K mg base ["value", "many", "last", "place", "one", "other"] "are_places" (defScope s_are_places) f cdv A0 outer s H E) m (WD E) (defBody s_are_places) (gb_are_places) :=
  b_cons (s_if (t_bool (w_or (t_not (d_testval (d_isi (by rfl) b_isinstance (by rfl) b_tuple rfl (ha := d_var 0)))) (w_or1 (t_gt (d_callB call_len cd_len (by rfl) b_len rfl (l_cons (d_var 0) (l_nil))) (d_var 1))))) (b_one (s_ret (d_bl))) (b_nil)) (b_cons (s_if (t_not (d_testval (d_callB (cr_all rfl) cd_all (by rfl) b_all rfl (l_cons (d_lc rfl sc_are_places.nd (own := [("place", 3)]) (blkOk_by (N := ["value", "many", "last", "place", "one", "other"]) (sc := defScope s_are_places) (by decide +kernel)) (i_seq (d_var 0)) (fun m s H C cl fp => g_nameV (i := 3) (by decide) sc_are_places.nd rfl (by first | exact Or.inl rfl | exact Or.inr rfl)) (fun m s H C cl fp => ts_nil) (fun m s H C cl fp => d_callC c_is_within hr takes_w0 (l_cons (d_var 3) (l_cons (d_int) (l_cons (d_var 2) (l_nil)))))) (l_nil))))) (b_one (s_ret (d_bl))) (b_nil)) (b_one (s_ret (d_callB (cr_all rfl) cd_all (by rfl) b_all rfl (l_cons (d_lc rfl sc_are_places.nd (own := [("one", 4), ("other", 5)]) (blkOk_by (N := ["value", "many", "last", "place", "one", "other"]) (sc := defScope s_are_places) (by decide +kernel)) (i_zip b_zip (l_cons (d_var 0) (l_cons (d_slice (d_var 0) (o_some (d_int)) (o_none)) (l_nil)))) (fun m s H C cl fp => g_pairV rfl (g_nameV (i := 4) (by decide) sc_are_places.nd rfl (by first | exact Or.inl rfl | exact Or.inr rfl)) (g_nameV (i := 5) (by decide) sc_are_places.nd rfl (by first | exact Or.inl rfl | exact Or.inr rfl))) (fun m s H C cl fp => ts_nil) (fun m s H C cl fp => e_lt (d_var 4) (d_var 5))) (l_nil))))))
theorem ok_are_places (b_all : mg "all" = none) (b_isinstance : mg "isinstance" = none) (b_len : mg "len" = none) (b_tuple : mg "tuple" = none) (b_zip : mg "zip" = none) (c_is_within : Cal P w K mg base "is_within" 3 (pureF f_is_within)) {f : Addr} {fd : FuncData} (Fd : Fun K "are_places" "are_places" s_are_places f fd) : FnOk P w K mg base (L2.CX P w) 4 f fd ["value", "many", "last"] (spF K (pureF f_are_places)) :=
  fn_pure Fd sc_are_places (P3.len) ⟨gb_are_places, fun cdv A0 outer s H E m hx hr => dv_are_places b_all b_isinstance b_len b_tuple b_zip c_is_within cdv A0 outer s H E m hx hr, eq_are_places⟩
abbrev s_is_rule : Stmt := top 16
theorem sc_is_rule : FnScope ["value"] ["value"] (defScope s_is_rule) := ⟨rfl, rfl, rfl, by decide +kernel, rfl, by decide +kernel, by decide +kernel⟩
theorem dv_is_rule (b_isinstance : mg "isinstance" = none) (b_str : mg "str" = none) (g_RULES : Gc mg K "RULES" dRULES) {f : Addr} (cdv : Value) (A0 : Around) (outer : List Env) (s : Shared) (H : Hp) (E : XK) (m : Fm) (hx : m.ex = none) (hr : Room 1 (A0.deeper (PyProof.Rows.envOfC "is_rule" (defScope s_is_rule) s.heap.objs.size f cdv))) : DB (cxOf (L2.CX P w) P w K mg base ["value"] "is_rule" (defScope s_is_rule) f cdv A0 outer s H E) m (WD E) (defBody s_is_rule) (gb_is_rule) :=
  b_one (s_ret (d_and (d_isi (by rfl) b_isinstance (by rfl) b_str rfl (ha := d_var 0)) (d_one (e_in (d_var 0) (d_globC g_RULES)))))
theorem ok_is_rule (b_isinstance : mg "isinstance" = none) (b_str : mg "str" = none) (g_RULES : Gc mg K "RULES" dRULES) {f : Addr} {fd : FuncData} (Fd : Fun K "is_rule" "is_rule" s_is_rule f fd) : FnOk P w K mg base (L2.CX P w) 2 f fd ["value"] (spF K (pureF f_is_rule)) :=
  fn_pure Fd sc_is_rule (P1.len) ⟨gb_is_rule, fun cdv A0 outer s H E m hx hr => dv_is_rule b_isinstance b_str g_RULES cdv A0 outer s H E m hx hr, eq_is_rule⟩
abbrev s_Plan___init__ : Stmt := inClass (top 17) 0
theorem sc_Plan___init__ : FnScope ["self", "front", "back", "rule"] ["self", "front", "back", "rule"] (defScope s_Plan___init__) := ⟨rfl, rfl, rfl, by decide +kernel, rfl, by decide +kernel, by decide +kernel⟩
theorem dv_Plan___init__ (b_max : mg "max" = none) (b_sum : mg "sum" = none) (c_are_places : Cal P w K mg base "are_places" 4 (pureF f_are_places)) (c_is_rule : Cal P w K mg base "is_rule" 2 (pureF f_is_rule)) (cl_CPlan : Cls K A.CPlan) (e_InvalidBack : CalE P w K mg base "InvalidBack" A.CInvalidBack [] 1 (spE0 K)) (e_InvalidFront : CalE P w K mg base "InvalidFront" A.CInvalidFront [] 1 (spE0 K)) (e_InvalidRule : CalE P w K mg base "InvalidRule" A.CInvalidRule [] 1 (spE0 K)) (g_LAST_BACK : Gc mg K "LAST_BACK" (.int 4)) (g_LAST_FRONT : Gc mg K "LAST_FRONT" (.int 5)) (g_MOST_BACK : Gc mg K "MOST_BACK" (.int 2)) (g_MOST_FRONT : Gc mg K "MOST_FRONT" (.int 3)) (na_CPlan_first : NoAttr K A.CPlan "first") (na_CPlan_fore : NoAttr K A.CPlan "fore") (na_CPlan_rear : NoAttr K A.CPlan "rear") (na_CPlan_way : NoAttr K A.CPlan "way") {f : Addr} (cdv : Value) (A0 : Around) (outer : List Env) (s : Shared) (H : Hp) (E : XK) (m : Fm) (hx : m.ex = none) (hr : Room 4 (A0.deeper (PyProof.Rows.envOfC "Plan.__init__" (defScope s_Plan___init__) s.heap.objs.size f cdv))) : DB (cxOf (L2.CX P w) P w K mg base ["self", "front", "back", "rule"] "Plan.__init__" (defScope s_Plan___init__) f cdv A0 outer s H E) m (WD E) (defBody s_Plan___init__) (gb_Plan___init__ A) :=
  b_cons (s_if (t_not (d_testval (d_callC c_are_places hr (takes_of rfl rfl rfl rfl) (l_cons (d_var 1) (l_cons (d_globC g_MOST_FRONT) (l_cons (d_globC g_LAST_FRONT) (l_nil))))))) (b_one (s_raise0 e_InvalidFront hr (takes_of rfl rfl rfl rfl))) (b_nil)) (b_cons (s_if (t_not (d_testval (d_callC c_are_places hr (takes_of rfl rfl rfl rfl) (l_cons (d_var 2) (l_cons (d_globC g_MOST_BACK) (l_cons (d_globC g_LAST_BACK) (l_nil))))))) (b_one (s_raise0 e_InvalidBack hr (takes_of rfl rfl rfl rfl))) (b_nil)) (b_cons (s_if (t_not (d_testval (d_callC c_is_rule hr (takes_of rfl rfl rfl rfl) (l_cons (d_var 3) (l_nil))))) (b_one (s_raise0 e_InvalidRule hr (takes_of rfl rfl rfl rfl))) (b_nil)) (b_cons (s_fldO (i := 0) cl_CPlan na_CPlan_fore (d_var 1)) (b_cons (s_fldO (i := 0) cl_CPlan na_CPlan_rear (d_var 2)) (b_cons (s_fldO (i := 0) cl_CPlan na_CPlan_way (d_var 3)) (b_one (s_fldO (i := 0) cl_CPlan na_CPlan_first (d_callB (cr_max rfl) cd_max (by rfl) b_max rfl (l_cons (d_lst (l_cons (d_int) (l_cons (e_add (d_callB (cr_sumA rfl) cd_sumA (by rfl) b_sum rfl (l_cons (d_slice (d_var 1) (o_some (d_neg (d_int))) (o_none)) (l_nil))) (d_callB (cr_sumA rfl) cd_sumA (by rfl) b_sum rfl (l_cons (d_slice (d_var 2) (o_some (d_neg (d_int))) (o_none)) (l_nil)))) (l_nil)))) (l_nil))))))))))
theorem len_Plan___init__ (A : Ads) : ∀ as, (f_Plan2 A) as ≠ .stuck → as.length = 4 := by
  intro as h
  first
    | exact lenx_Plan2 A as h
    | (unfold f_Plan2 at h; split at h; (first | rfl | (rename_i z; exact selfArgs_len z)); exact absurd rfl h)
theorem ok_Plan___init__ (b_max : mg "max" = none) (b_sum : mg "sum" = none) (c_are_places : Cal P w K mg base "are_places" 4 (pureF f_are_places)) (c_is_rule : Cal P w K mg base "is_rule" 2 (pureF f_is_rule)) (cl_CPlan : Cls K A.CPlan) (e_InvalidBack : CalE P w K mg base "InvalidBack" A.CInvalidBack [] 1 (spE0 K)) (e_InvalidFront : CalE P w K mg base "InvalidFront" A.CInvalidFront [] 1 (spE0 K)) (e_InvalidRule : CalE P w K mg base "InvalidRule" A.CInvalidRule [] 1 (spE0 K)) (g_LAST_BACK : Gc mg K "LAST_BACK" (.int 4)) (g_LAST_FRONT : Gc mg K "LAST_FRONT" (.int 5)) (g_MOST_BACK : Gc mg K "MOST_BACK" (.int 2)) (g_MOST_FRONT : Gc mg K "MOST_FRONT" (.int 3)) (na_CPlan_first : NoAttr K A.CPlan "first") (na_CPlan_fore : NoAttr K A.CPlan "fore") (na_CPlan_rear : NoAttr K A.CPlan "rear") (na_CPlan_way : NoAttr K A.CPlan "way") {f : Addr} {fd : FuncData} (Fd : Fun K "__init__" "Plan.__init__" s_Plan___init__ f fd) : FnOk P w K mg base (L2.CX P w) 5 f fd ["self", "front", "back", "rule"] (spF K (f_Plan2 A)) :=
  fn_lt Fd sc_Plan___init__ (len_Plan___init__ A) ⟨gb_Plan___init__ A, fun cdv A0 outer s H E m hx hr => dv_Plan___init__ b_max b_sum c_are_places c_is_rule cl_CPlan e_InvalidBack e_InvalidFront e_InvalidRule g_LAST_BACK g_LAST_FRONT g_MOST_BACK g_MOST_FRONT na_CPlan_first na_CPlan_fore na_CPlan_rear na_CPlan_way cdv A0 outer s H E m hx hr, eq_Plan2 A⟩
abbrev s_Plan___eq__ : Stmt := inClass (top 17) 5
theorem sc_Plan___eq__ : FnScope ["self", "other"] ["self", "other"] (defScope s_Plan___eq__) := ⟨rfl, rfl, rfl, by decide +kernel, rfl, by decide +kernel, by decide +kernel⟩
theorem dv_Plan___eq__ (b_isinstance : mg "isinstance" = none) (cl_CPlan : Cls K A.CPlan) (ic_Plan : IsC K A.CPlan) (kc_Plan : mg "Plan" = some (.ref A.CPlan)) (na_CPlan_fore : NoAttr K A.CPlan "fore") (na_CPlan_rear : NoAttr K A.CPlan "rear") (na_CPlan_way : NoAttr K A.CPlan "way") {f : Addr} (cdv : Value) (A0 : Around) (outer : List Env) (s : Shared) (H : Hp) (E : XK) (m : Fm) (hx : m.ex = none) (hr : Room 2 (A0.deeper (PyProof.Rows.envOfC "Plan.__eq__" (defScope s_Plan___eq__) s.heap.objs.size f cdv))) : DB (cxOf (L2.CX P w) P w K mg base ["self", "other"] "Plan.__eq__" (defScope s_Plan___eq__) f cdv A0 outer s H E) m (WD E) (defBody s_Plan___eq__) (gb_Plan___eq__ A) :=
  b_cons (s_if (t_not (d_testval (d_isC (i := 1) ic_Plan b_isinstance kc_Plan))) (b_one (s_ret (d_bl))) (b_nil)) (b_one (s_ret (d_and (e_eq hr (d_fld cl_CPlan na_CPlan_fore (d_var 0)) (d_fld cl_CPlan na_CPlan_fore (d_var 1))) (d_and (e_eq hr (d_fld cl_CPlan na_CPlan_rear (d_var 0)) (d_fld cl_CPlan na_CPlan_rear (d_var 1))) (d_one (e_eq hr (d_fld cl_CPlan na_CPlan_way (d_var 0)) (d_fld cl_CPlan na_CPlan_way (d_var 1))))))))
theorem len_Plan___eq__ (A : Ads) : ∀ as, f_planEq A as ≠ .stuck → as.length = 2 := len_planEq A
theorem ok_Plan___eq__ (b_isinstance : mg "isinstance" = none) (cl_CPlan : Cls K A.CPlan) (ic_Plan : IsC K A.CPlan) (kc_Plan : mg "Plan" = some (.ref A.CPlan)) (na_CPlan_fore : NoAttr K A.CPlan "fore") (na_CPlan_rear : NoAttr K A.CPlan "rear") (na_CPlan_way : NoAttr K A.CPlan "way") {f : Addr} {fd : FuncData} (Fd : Fun K "__eq__" "Plan.__eq__" s_Plan___eq__ f fd) : FnOk P w K mg base (L2.CX P w) 3 f fd ["self", "other"] (spF K (f_planEq A)) :=
  fn_lt Fd sc_Plan___eq__ (len_Plan___eq__ A) ⟨gb_Plan___eq__ A, fun cdv A0 outer s H E m hx hr => dv_Plan___eq__ b_isinstance cl_CPlan ic_Plan kc_Plan na_CPlan_fore na_CPlan_rear na_CPlan_way cdv A0 outer s H E m hx hr, eq_planEq A⟩
abbrev s_LineReader___init__ : Stmt := inClass (top 19) 0
theorem sc_LineReader___init__ : FnScope ["self", "line", "row"] ["self", "line", "row"] (defScope s_LineReader___init__) := ⟨rfl, rfl, rfl, by decide +kernel, rfl, by decide +kernel, by decide +kernel⟩
theorem dv_LineReader___init__ (cl_CLineReader : Cls K A.CLineReader) (na_CLineReader_line : NoAttr K A.CLineReader "line") (na_CLineReader_row : NoAttr K A.CLineReader "row") (na_CLineReader_spot : NoAttr K A.CLineReader "spot") {f : Addr} (cdv : Value) (A0 : Around) (outer : List Env) (s : Shared) (H : Hp) (E : XK) (m : Fm) (hx : m.ex = none) (hr : Room 1 (A0.deeper (PyProof.Rows.envOfC "LineReader.__init__" (defScope s_LineReader___init__) s.heap.objs.size f cdv))) : DB (cxOf (L2.CX P w) P w K mg base ["self", "line", "row"] "LineReader.__init__" (defScope s_LineReader___init__) f cdv A0 outer s H E) m (WD E) (defBody s_LineReader___init__) (gb_LineReader___init__ A) :=
  b_cons (s_fldO (i := 0) cl_CLineReader na_CLineReader_line (d_var 1)) (b_cons (s_fldO (i := 0) cl_CLineReader na_CLineReader_row (d_var 2)) (b_one (s_fldO (i := 0) cl_CLineReader na_CLineReader_spot (d_int))))
theorem len_LineReader___init__ (A : Ads) : ∀ as, (f_LR_init A) as ≠ .stuck → as.length = 3 := by
  intro as h
  first
    | exact lenx_LR_init A as h
    | (unfold f_LR_init at h; split at h; (first | rfl | (rename_i z; exact selfArgs_len z)); exact absurd rfl h)
theorem ok_LineReader___init__ (cl_CLineReader : Cls K A.CLineReader) (na_CLineReader_line : NoAttr K A.CLineReader "line") (na_CLineReader_row : NoAttr K A.CLineReader "row") (na_CLineReader_spot : NoAttr K A.CLineReader "spot") {f : Addr} {fd : FuncData} (Fd : Fun K "__init__" "LineReader.__init__" s_LineReader___init__ f fd) : FnOk P w K mg base (L2.CX P w) 2 f fd ["self", "line", "row"] (spF K (f_LR_init A)) :=
  fn_lt Fd sc_LineReader___init__ (len_LineReader___init__ A) ⟨gb_LineReader___init__ A, fun cdv A0 outer s H E m hx hr => dv_LineReader___init__ cl_CLineReader na_CLineReader_line na_CLineReader_row na_CLineReader_spot cdv A0 outer s H E m hx hr, eq_LR_init A⟩
abbrev s_LineReader_refuse : Stmt := inClass (top 19) 1
theorem sc_LineReader_refuse : FnScope ["self"] ["self"] (defScope s_LineReader_refuse) := ⟨rfl, rfl, rfl, by decide +kernel, rfl, by decide +kernel, by decide +kernel⟩
theorem dv_LineReader_refuse (cl_CLineReader : Cls K A.CLineReader) (e_InvalidText : CalE P w K mg base "InvalidText" A.CInvalidText ["line", "word"] 1 (spE2 K "line" "word")) (na_CLineReader_line : NoAttr K A.CLineReader "line") (na_CLineReader_spot : NoAttr K A.CLineReader "spot") {f : Addr} (cdv : Value) (A0 : Around) (outer : List Env) (s : Shared) (H : Hp) (E : XK) (m : Fm) (hx : m.ex = none) (hr : Room 2 (A0.deeper (PyProof.Rows.envOfC "LineReader.refuse" (defScope s_LineReader_refuse) s.heap.objs.size f cdv))) : DB (cxOf (L2.CX P w) P w K mg base ["self"] "LineReader.refuse" (defScope s_LineReader_refuse) f cdv A0 outer s H E) m (WD E) (defBody s_LineReader_refuse) (gb_LineReader_refuse A) :=
  b_one (s_raise2 e_InvalidText hr (takes_of rfl rfl rfl rfl) (l_cons (d_fldO (i := 0) cl_CLineReader na_CLineReader_line) (l_cons (e_add (d_fldO (i := 0) cl_CLineReader na_CLineReader_spot) (d_int)) (l_nil))))
theorem len_LineReader_refuse (A : Ads) : ∀ as, (f_LR_refuse A) as ≠ .stuck → as.length = 1 := by
  intro as h
  first
    | exact lenx_LR_refuse A as h
    | (unfold f_LR_refuse at h; split at h; (first | rfl | (rename_i z; exact selfArgs_len z)); exact absurd rfl h)
theorem ok_LineReader_refuse (cl_CLineReader : Cls K A.CLineReader) (e_InvalidText : CalE P w K mg base "InvalidText" A.CInvalidText ["line", "word"] 1 (spE2 K "line" "word")) (na_CLineReader_line : NoAttr K A.CLineReader "line") (na_CLineReader_spot : NoAttr K A.CLineReader "spot") {f : Addr} {fd : FuncData} (Fd : Fun K "refuse" "LineReader.refuse" s_LineReader_refuse f fd) : FnOk P w K mg base (L2.CX P w) 3 f fd ["self"] (spF K (f_LR_refuse A)) :=
  fn_lt Fd sc_LineReader_refuse (len_LineReader_refuse A) ⟨gb_LineReader_refuse A, fun cdv A0 outer s H E m hx hr => dv_LineReader_refuse cl_CLineReader e_InvalidText na_CLineReader_line na_CLineReader_spot cdv A0 outer s H E m hx hr, eq_LR_refuse A⟩
abbrev s_LineReader_one_of : Stmt := inClass (top 19) 2
theorem sc_LineReader_one_of : FnScope ["self", "some"] ["self", "some"] (defScope s_LineReader_one_of) := ⟨rfl, rfl, rfl, by decide +kernel, rfl, by decide +kernel, by decide +kernel⟩
theorem dv_LineReader_one_of (b_len : mg "len" = none) (cl_CLineReader : Cls K A.CLineReader) (me_refuse : MethC P w K mg base A.CLineReader "refuse" 3 (f_LR_refuse A)) (na_CLineReader_row : NoAttr K A.CLineReader "row") (na_CLineReader_spot : NoAttr K A.CLineReader "spot") {f : Addr} (cdv : Value) (A0 : Around) (outer : List Env) (s : Shared) (H : Hp) (E : XK) (m : Fm) (hx : m.ex = none) (hr : Room 3 (A0.deeper (PyProof.Rows.envOfC "LineReader.one_of" (defScope s_LineReader_one_of) s.heap.objs.size f cdv))) : DB (cxOf (L2.CX P w) P w K mg base ["self", "some"] "LineReader.one_of" (defScope s_LineReader_one_of) f cdv A0 outer s H E) m (WD E) (defBody s_LineReader_one_of) (gb_LineReader_one_of A) :=
  b_cons (s_if (t_bool (w_or (t_eq hr (d_fldO (i := 0) cl_CLineReader na_CLineReader_spot) (d_callB call_len cd_len (by rfl) b_len rfl (l_cons (d_fldO (i := 0) cl_CLineReader na_CLineReader_row) (l_nil)))) (w_or1 (t_notIn (d_ix (d_fldO (i := 0) cl_CLineReader na_CLineReader_row) (d_fldO (i := 0) cl_CLineReader na_CLineReader_spot)) (d_var 1))))) (b_one (s_expr (d_meth0 (i := 0) cl_CLineReader me_refuse hr (takes_of rfl rfl rfl rfl)))) (b_nil)) (b_cons (s_fldAdd (i := 0) cl_CLineReader na_CLineReader_spot (d_int)) (b_one (s_ret (d_ix (d_fldO (i := 0) cl_CLineReader na_CLineReader_row) (e_sub (d_fldO (i := 0) cl_CLineReader na_CLineReader_spot) (d_int))))))
theorem len_LineReader_one_of (A : Ads) : ∀ as, (f_LR_one_of A) as ≠ .stuck → as.length = 2 := by
  intro as h
  first
    | exact lenx_LR_one_of A as h
    | (unfold f_LR_one_of at h; split at h; (first | rfl | (rename_i z; exact selfArgs_len z)); exact absurd rfl h)
theorem ok_LineReader_one_of (b_len : mg "len" = none) (cl_CLineReader : Cls K A.CLineReader) (me_refuse : MethC P w K mg base A.CLineReader "refuse" 3 (f_LR_refuse A)) (na_CLineReader_row : NoAttr K A.CLineReader "row") (na_CLineReader_spot : NoAttr K A.CLineReader "spot") {f : Addr} {fd : FuncData} (Fd : Fun K "one_of" "LineReader.one_of" s_LineReader_one_of f fd) : FnOk P w K mg base (L2.CX P w) 4 f fd ["self", "some"] (spF K (f_LR_one_of A)) :=
  fn_lt Fd sc_LineReader_one_of (len_LineReader_one_of A) ⟨gb_LineReader_one_of A, fun cdv A0 outer s H E m hx hr => dv_LineReader_one_of b_len cl_CLineReader me_refuse na_CLineReader_row na_CLineReader_spot cdv A0 outer s H E m hx hr, eq_LR_one_of A⟩
abbrev s_LineReader_places : Stmt := inClass (top 19) 3
theorem sc_LineReader_places : FnScope ["self", "many", "last", "found", "low", "some", "place"] ["self", "many", "last"] (defScope s_LineReader_places) := ⟨rfl, rfl, rfl, by decide +kernel, rfl, by decide +kernel, by decide +kernel⟩
theorem dv_LineReader_places (b_int : mg "int" = none) (b_len : mg "len" = none) (b_range : mg "range" = none) (b_str : mg "str" = none) (b_sum : mg "sum" = none) (cl_CLineReader : Cls K A.CLineReader) (me_one_of : MethC P w K mg base A.CLineReader "one_of" 4 (f_LR_one_of A)) (na_CLineReader_row : NoAttr K A.CLineReader "row") (na_CLineReader_spot : NoAttr K A.CLineReader "spot") {f : Addr} (cdv : Value) (A0 : Around) (outer : List Env) (s : Shared) (H : Hp) (E : XK) (m : Fm) (hx : m.ex = none) (hr : Room 4 (A0.deeper (PyProof.Rows.envOfC "LineReader.places" (defScope s_LineReader_places) s.heap.objs.size f cdv))) : DB (cxOf (L2.CX P w) P w K mg base ["self", "many", "last", "found", "low", "some", "place"] "LineReader.places" (defScope s_LineReader_places) f cdv A0 outer s H E) m (WD E) (defBody s_LineReader_places) (gb_LineReader_places A) :=
  b_cons (s_set (i := 3) sc_LineReader_places.nd rfl (Or.inl rfl) (d_tup (l_nil))) (b_cons (s_while (passes_of rfl) (t_lt (d_fldO (i := 0) cl_CLineReader na_CLineReader_spot) (d_callB call_len cd_len (by rfl) b_len rfl (l_cons (d_fldO (i := 0) cl_CLineReader na_CLineReader_row) (l_nil)))) (b_cons (s_set (i := 4) sc_LineReader_places.nd rfl (Or.inl rfl) (e_add (d_callB (cr_sumA rfl) cd_sumA (by rfl) b_sum rfl (l_cons (d_slice (d_var 3) (o_some (d_neg (d_int))) (o_none)) (l_nil))) (d_int))) (b_cons (s_set (i := 5) sc_LineReader_places.nd rfl (Or.inl rfl) (d_if (t_lt (d_callB call_len cd_len (by rfl) b_len rfl (l_cons (d_var 3) (l_nil))) (d_var 1)) (d_lc rfl sc_LineReader_places.nd (own := [("place", 6)]) (blkOk_by (N := ["self", "many", "last", "found", "low", "some", "place"]) (sc := defScope s_LineReader_places) (by decide +kernel)) (i_range2 (by rfl) b_range (l_cons (d_var 4) (l_cons (e_add (d_var 2) (d_int)) (l_nil)))) (fun m s H C cl fp => g_nameV (i := 6) (by decide) sc_LineReader_places.nd rfl (by first | exact Or.inl rfl | exact Or.inr rfl)) (fun m s H C cl fp => ts_nil) (fun m s H C cl fp => d_callTy cr_str cd_str (by rfl) b_str rfl (l_cons (d_var 6) (l_nil)))) (d_lst (l_nil)))) (b_one (s_set (i := 3) sc_LineReader_places.nd rfl (Or.inl rfl) (e_add (d_var 3) (d_tup (l_cons (d_callTy call_int_str cd_intS (by rfl) b_int rfl (l_cons (d_meth (i := 0) cl_CLineReader me_one_of hr (takes_of rfl rfl rfl rfl) (ar_val (d_var 5) (ar_nil))) (l_nil))) (l_nil))))))))) (b_one (s_ret (d_var 3))))
theorem len_LineReader_places (A : Ads) : ∀ as, (f_LR_places A) as ≠ .stuck → as.length = 3 := by
  intro as h
  first
    | exact lenx_LR_places A as h
    | (unfold f_LR_places at h; split at h; (first | rfl | (rename_i z; exact selfArgs_len z)); exact absurd rfl h)
theorem ok_LineReader_places (b_int : mg "int" = none) (b_len : mg "len" = none) (b_range : mg "range" = none) (b_str : mg "str" = none) (b_sum : mg "sum" = none) (cl_CLineReader : Cls K A.CLineReader) (me_one_of : MethC P w K mg base A.CLineReader "one_of" 4 (f_LR_one_of A)) (na_CLineReader_row : NoAttr K A.CLineReader "row") (na_CLineReader_spot : NoAttr K A.CLineReader "spot") {f : Addr} {fd : FuncData} (Fd : Fun K "places" "LineReader.places" s_LineReader_places f fd) : FnOk P w K mg base (L2.CX P w) 5 f fd ["self", "many", "last"] (spF K (f_LR_places A)) :=
  fn_lt Fd sc_LineReader_places (len_LineReader_places A) ⟨gb_LineReader_places A, fun cdv A0 outer s H E m hx hr => dv_LineReader_places b_int b_len b_range b_str b_sum cl_CLineReader me_one_of na_CLineReader_row na_CLineReader_spot cdv A0 outer s H E m hx hr, eq_LR_places A⟩
abbrev s_LineReader_end : Stmt := inClass (top 19) 4
theorem sc_LineReader_end : FnScope ["self"] ["self"] (defScope s_LineReader_end) := ⟨rfl, rfl, rfl, by decide +kernel, rfl, by decide +kernel, by decide +kernel⟩
theorem dv_LineReader_end (b_len : mg "len" = none) (cl_CLineReader : Cls K A.CLineReader) (me_refuse : MethC P w K mg base A.CLineReader "refuse" 3 (f_LR_refuse A)) (na_CLineReader_row : NoAttr K A.CLineReader "row") (na_CLineReader_spot : NoAttr K A.CLineReader "spot") {f : Addr} (cdv : Value) (A0 : Around) (outer : List Env) (s : Shared) (H : Hp) (E : XK) (m : Fm) (hx : m.ex = none) (hr : Room 3 (A0.deeper (PyProof.Rows.envOfC "LineReader.end" (defScope s_LineReader_end) s.heap.objs.size f cdv))) : DB (cxOf (L2.CX P w) P w K mg base ["self"] "LineReader.end" (defScope s_LineReader_end) f cdv A0 outer s H E) m (WD E) (defBody s_LineReader_end) (gb_LineReader_end A) :=
  b_one (s_if (t_lt (d_fldO (i := 0) cl_CLineReader na_CLineReader_spot) (d_callB call_len cd_len (by rfl) b_len rfl (l_cons (d_fldO (i := 0) cl_CLineReader na_CLineReader_row) (l_nil)))) (b_one (s_expr (d_meth0 (i := 0) cl_CLineReader me_refuse hr (takes_of rfl rfl rfl rfl)))) (b_nil))
theorem len_LineReader_end (A : Ads) : ∀ as, (f_LR_end A) as ≠ .stuck → as.length = 1 := by
  intro as h
  first
    | exact lenx_LR_end A as h
    | (unfold f_LR_end at h; split at h; (first | rfl | (rename_i z; exact selfArgs_len z)); exact absurd rfl h)
theorem ok_LineReader_end (b_len : mg "len" = none) (cl_CLineReader : Cls K A.CLineReader) (me_refuse : MethC P w K mg base A.CLineReader "refuse" 3 (f_LR_refuse A)) (na_CLineReader_row : NoAttr K A.CLineReader "row") (na_CLineReader_spot : NoAttr K A.CLineReader "spot") {f : Addr} {fd : FuncData} (Fd : Fun K "end" "LineReader.end" s_LineReader_end f fd) : FnOk P w K mg base (L2.CX P w) 4 f fd ["self"] (spF K (f_LR_end A)) :=
  fn_lt Fd sc_LineReader_end (len_LineReader_end A) ⟨gb_LineReader_end A, fun cdv A0 outer s H E m hx hr => dv_LineReader_end b_len cl_CLineReader me_refuse na_CLineReader_row na_CLineReader_spot cdv A0 outer s H E m hx hr, eq_LR_end A⟩
abbrev s_TextReader___init__ : Stmt := inClass (top 20) 0
theorem sc_TextReader___init__ : FnScope ["self", "text", "line", "word"] ["self", "text"] (defScope s_TextReader___init__) := ⟨rfl, rfl, rfl, by decide +kernel, rfl, by decide +kernel, by decide +kernel⟩
theorem dv_TextReader___init__ (cl_CTextReader : Cls K A.CTextReader) (na_CTextReader_done : NoAttr K A.CTextReader "done") (na_CTextReader_rows : NoAttr K A.CTextReader "rows") {f : Addr} (cdv : Value) (A0 : Around) (outer : List Env) (s : Shared) (H : Hp) (E : XK) (m : Fm) (hx : m.ex = none) (hr : Room 1 (A0.deeper (PyProof.Rows.envOfC "TextReader.__init__" (defScope s_TextReader___init__) s.heap.objs.size f cdv))) : DB (cxOf (L2.CX P w) P w K mg base ["self", "text", "line", "word"] "TextReader.__init__" (defScope s_TextReader___init__) f cdv A0 outer s H E) m (WD E) (defBody s_TextReader___init__) (gb_TextReader___init__ A) :=
  b_cons (s_fldO (i := 0) cl_CTextReader na_CTextReader_rows (d_lc rfl sc_TextReader___init__.nd (own := [("line", 2)]) (blkOk_by (N := ["self", "text", "line", "word"]) (sc := defScope s_TextReader___init__) (by decide +kernel)) (i_seq (d_split (d_var 1) (d_str))) (fun m s H C cl fp => g_nameV (i := 2) (by decide) sc_TextReader___init__.nd rfl (by first | exact Or.inl rfl | exact Or.inr rfl)) (fun m s H C cl fp => ts_nil) (fun m s H C cl fp => d_lc rfl sc_TextReader___init__.nd (own := [("word", 3)]) (blkOk_by (N := ["self", "text", "line", "word"]) (sc := ⟨.function, [(".0", .local), ("line", .local)], false, false, []⟩) (by decide +kernel)) (i_seq (d_split (d_var 2) (d_str))) (fun m s H C cl fp => g_nameV (i := 3) (by decide) sc_TextReader___init__.nd rfl (by first | exact Or.inl rfl | exact Or.inr rfl)) (fun m s H C cl fp => ts_one (t_ne hr (d_var 3) (d_str))) (fun m s H C cl fp => d_var 3)))) (b_one (s_fldO (i := 0) cl_CTextReader na_CTextReader_done (d_int)))
theorem len_TextReader___init__ (A : Ads) : ∀ as, (f_TR_init A) as ≠ .stuck → as.length = 2 := by
  intro as h
  first
    | exact lenx_TR_init A as h
    | (unfold f_TR_init at h; split at h; (first | rfl | (rename_i z; exact selfArgs_len z)); exact absurd rfl h)
theorem ok_TextReader___init__ (cl_CTextReader : Cls K A.CTextReader) (na_CTextReader_done : NoAttr K A.CTextReader "done") (na_CTextReader_rows : NoAttr K A.CTextReader "rows") {f : Addr} {fd : FuncData} (Fd : Fun K "__init__" "TextReader.__init__" s_TextReader___init__ f fd) : FnOk P w K mg base (L2.CX P w) 2 f fd ["self", "text"] (spF K (f_TR_init A)) :=
  fn_lt Fd sc_TextReader___init__ (len_TextReader___init__ A) ⟨gb_TextReader___init__ A, fun cdv A0 outer s H E m hx hr => dv_TextReader___init__ cl_CTextReader na_CTextReader_done na_CTextReader_rows cdv A0 outer s H E m hx hr, eq_TR_init A⟩
abbrev s_TextReader_take : Stmt := inClass (top 20) 1
theorem sc_TextReader_take : FnScope ["self", "head", "found"] ["self", "head"] (defScope s_TextReader_take) := ⟨rfl, rfl, rfl, by decide +kernel, rfl, by decide +kernel, by decide +kernel⟩
theorem dv_TextReader_take (b_len : mg "len" = none) (cl_CLineReader : Cls K A.CLineReader) (cl_CTextReader : Cls K A.CTextReader) (e_InvalidText : CalE P w K mg base "InvalidText" A.CInvalidText ["line", "word"] 1 (spE2 K "line" "word")) (m_LineReader : CalC P w K mg base "LineReader" A.CLineReader 2 (f_LR_init A)) (me_one_of : MethC P w K mg base A.CLineReader "one_of" 4 (f_LR_one_of A)) (na_CTextReader_done : NoAttr K A.CTextReader "done") (na_CTextReader_rows : NoAttr K A.CTextReader "rows") {f : Addr} (cdv : Value) (A0 : Around) (outer : List Env) (s : Shared) (H : Hp) (E : XK) (m : Fm) (hx : m.ex = none) (hr : Room 4 (A0.deeper (PyProof.Rows.envOfC "TextReader.take" (defScope s_TextReader_take) s.heap.objs.size f cdv))) : DB (cxOf (L2.CX P w) P w K mg base ["self", "head", "found"] "TextReader.take" (defScope s_TextReader_take) f cdv A0 outer s H E) m (WD E) (defBody s_TextReader_take) (gb_TextReader_take A) :=
  b_cons (s_if (t_eq hr (d_fldO (i := 0) cl_CTextReader na_CTextReader_done) (d_callB call_len cd_len (by rfl) b_len rfl (l_cons (d_fldO (i := 0) cl_CTextReader na_CTextReader_rows) (l_nil)))) (b_one (s_raise2 e_InvalidText hr (takes_of rfl rfl rfl rfl) (l_cons (e_add (d_callB call_len cd_len (by rfl) b_len rfl (l_cons (d_fldO (i := 0) cl_CTextReader na_CTextReader_rows) (l_nil))) (d_int)) (l_cons (d_int) (l_nil))))) (b_nil)) (b_cons (s_fldAdd (i := 0) cl_CTextReader na_CTextReader_done (d_int)) (b_cons (s_setO (i := 2) sc_TextReader_take.nd rfl (Or.inl rfl) (o_make m_LineReader hr (takes_of rfl rfl rfl rfl) (l_cons (d_fldO (i := 0) cl_CTextReader na_CTextReader_done) (l_cons (d_ix (d_fldO (i := 0) cl_CTextReader na_CTextReader_rows) (e_sub (d_fldO (i := 0) cl_CTextReader na_CTextReader_done) (d_int))) (l_nil))))) (b_cons (s_expr (d_meth (i := 2) cl_CLineReader me_one_of hr (takes_of rfl rfl rfl rfl) (ar_val (d_tup (l_cons (d_var 1) (l_nil))) (ar_nil)))) (b_one (s_retO 2)))))
theorem len_TextReader_take (A : Ads) : ∀ as, (f_TR_take A) as ≠ .stuck → as.length = 2 := by
  intro as h
  first
    | exact lenx_TR_take A as h
    | (unfold f_TR_take at h; split at h; (first | rfl | (rename_i z; exact selfArgs_len z)); exact absurd rfl h)
theorem ok_TextReader_take (b_len : mg "len" = none) (cl_CLineReader : Cls K A.CLineReader) (cl_CTextReader : Cls K A.CTextReader) (e_InvalidText : CalE P w K mg base "InvalidText" A.CInvalidText ["line", "word"] 1 (spE2 K "line" "word")) (m_LineReader : CalC P w K mg base "LineReader" A.CLineReader 2 (f_LR_init A)) (me_one_of : MethC P w K mg base A.CLineReader "one_of" 4 (f_LR_one_of A)) (na_CTextReader_done : NoAttr K A.CTextReader "done") (na_CTextReader_rows : NoAttr K A.CTextReader "rows") {f : Addr} {fd : FuncData} (Fd : Fun K "take" "TextReader.take" s_TextReader_take f fd) : FnOk P w K mg base (L2.CX P w) 5 f fd ["self", "head"] (spF K (f_TR_take A)) :=
  fn_lt Fd sc_TextReader_take (len_TextReader_take A) ⟨gb_TextReader_take A, fun cdv A0 outer s H E m hx hr => dv_TextReader_take b_len cl_CLineReader cl_CTextReader e_InvalidText m_LineReader me_one_of na_CTextReader_done na_CTextReader_rows cdv A0 outer s H E m hx hr, eq_TR_take A⟩
abbrev s_read : Stmt := top 21
theorem sc_read : FnScope ["text", "reader", "front", "back", "line", "rule"] ["text"] (defScope s_read) := ⟨rfl, rfl, rfl, by decide +kernel, rfl, by decide +kernel, by decide +kernel⟩
theorem dv_read (b_len : mg "len" = none) (cl_CLineReader : Cls K A.CLineReader) (cl_CTextReader : Cls K A.CTextReader) (e_InvalidText : CalE P w K mg base "InvalidText" A.CInvalidText ["line", "word"] 1 (spE2 K "line" "word")) (g_LAST_BACK : Gc mg K "LAST_BACK" (.int 4)) (g_LAST_FRONT : Gc mg K "LAST_FRONT" (.int 5)) (g_MOST_BACK : Gc mg K "MOST_BACK" (.int 2)) (g_MOST_FRONT : Gc mg K "MOST_FRONT" (.int 3)) (g_RULES : Gc mg K "RULES" dRULES) (m_Plan : CalC P w K mg base "Plan" A.CPlan 5 (f_Plan2 A)) (m_TextReader : CalC P w K mg base "TextReader" A.CTextReader 2 (f_TR_init A)) (me_end : MethC P w K mg base A.CLineReader "end" 4 (f_LR_end A)) (me_one_of : MethC P w K mg base A.CLineReader "one_of" 4 (f_LR_one_of A)) (me_places : MethC P w K mg base A.CLineReader "places" 5 (f_LR_places A)) (me_take : MethC P w K mg base A.CTextReader "take" 5 (f_TR_take A)) (na_CTextReader_done : NoAttr K A.CTextReader "done") (na_CTextReader_rows : NoAttr K A.CTextReader "rows") {f : Addr} (cdv : Value) (A0 : Around) (outer : List Env) (s : Shared) (H : Hp) (E : XK) (m : Fm) (hx : m.ex = none) (hr : Room 6 (A0.deeper (PyProof.Rows.envOfC "read" (defScope s_read) s.heap.objs.size f cdv))) : DB (cxOf (L2.CX P w) P w K mg base ["text", "reader", "front", "back", "line", "rule"] "read" (defScope s_read) f cdv A0 outer s H E) m (WD E) (defBody s_read) (gb_read A) :=
  b_cons (s_setO (i := 1) sc_read.nd rfl (Or.inl rfl) (o_make m_TextReader hr (takes_of rfl rfl rfl rfl) (l_cons (d_var 0) (l_nil)))) (b_cons (s_set (i := 2) sc_read.nd rfl (Or.inl rfl) (d_methT cl_CLineReader me_places hr (takes_of rfl rfl rfl rfl) (o_meth (i := 1) cl_CTextReader me_take hr (takes_of rfl rfl rfl rfl) (ar_val (d_str) (ar_nil))) (fun m => l_cons (d_globC g_MOST_FRONT) (l_cons (d_globC g_LAST_FRONT) (l_nil))))) (b_cons (s_set (i := 3) sc_read.nd rfl (Or.inl rfl) (d_methT cl_CLineReader me_places hr (takes_of rfl rfl rfl rfl) (o_meth (i := 1) cl_CTextReader me_take hr (takes_of rfl rfl rfl rfl) (ar_val (d_str) (ar_nil))) (fun m => l_cons (d_globC g_MOST_BACK) (l_cons (d_globC g_LAST_BACK) (l_nil))))) (b_cons (s_setO (i := 4) sc_read.nd rfl (Or.inl rfl) (o_meth (i := 1) cl_CTextReader me_take hr (takes_of rfl rfl rfl rfl) (ar_val (d_str) (ar_nil)))) (b_cons (s_set (i := 5) sc_read.nd rfl (Or.inl rfl) (d_meth (i := 4) cl_CLineReader me_one_of hr (takes_of rfl rfl rfl rfl) (ar_val (d_globC g_RULES) (ar_nil)))) (b_cons (s_expr (d_meth0 (i := 4) cl_CLineReader me_end hr (takes_of rfl rfl rfl rfl))) (b_cons (s_if (t_lt (d_fldO (i := 1) cl_CTextReader na_CTextReader_done) (d_callB call_len cd_len (by rfl) b_len rfl (l_cons (d_fldO (i := 1) cl_CTextReader na_CTextReader_rows) (l_nil)))) (b_one (s_raise2 e_InvalidText hr (takes_of rfl rfl rfl rfl) (l_cons (e_add (d_fldO (i := 1) cl_CTextReader na_CTextReader_done) (d_int)) (l_cons (d_int) (l_nil))))) (b_nil)) (b_one (s_ret (d_frz (o_make m_Plan hr (takes_of rfl rfl rfl rfl) (l_cons (d_var 2) (l_cons (d_var 3) (l_cons (d_var 5) (l_nil))))))))))))))
theorem ok_read (b_len : mg "len" = none) (cl_CLineReader : Cls K A.CLineReader) (cl_CTextReader : Cls K A.CTextReader) (e_InvalidText : CalE P w K mg base "InvalidText" A.CInvalidText ["line", "word"] 1 (spE2 K "line" "word")) (g_LAST_BACK : Gc mg K "LAST_BACK" (.int 4)) (g_LAST_FRONT : Gc mg K "LAST_FRONT" (.int 5)) (g_MOST_BACK : Gc mg K "MOST_BACK" (.int 2)) (g_MOST_FRONT : Gc mg K "MOST_FRONT" (.int 3)) (g_RULES : Gc mg K "RULES" dRULES) (m_Plan : CalC P w K mg base "Plan" A.CPlan 5 (f_Plan2 A)) (m_TextReader : CalC P w K mg base "TextReader" A.CTextReader 2 (f_TR_init A)) (me_end : MethC P w K mg base A.CLineReader "end" 4 (f_LR_end A)) (me_one_of : MethC P w K mg base A.CLineReader "one_of" 4 (f_LR_one_of A)) (me_places : MethC P w K mg base A.CLineReader "places" 5 (f_LR_places A)) (me_take : MethC P w K mg base A.CTextReader "take" 5 (f_TR_take A)) (na_CTextReader_done : NoAttr K A.CTextReader "done") (na_CTextReader_rows : NoAttr K A.CTextReader "rows") {f : Addr} {fd : FuncData} (Fd : Fun K "read" "read" s_read f fd) : FnOk P w K mg base (L2.CX P w) 7 f fd ["text"] (spF K (pureF (f_read A))) :=
  fn_pure Fd sc_read (P1.len) ⟨gb_read A, fun cdv A0 outer s H E m hx hr => dv_read b_len cl_CLineReader cl_CTextReader e_InvalidText g_LAST_BACK g_LAST_FRONT g_MOST_BACK g_MOST_FRONT g_RULES m_Plan m_TextReader me_end me_one_of me_places me_take na_CTextReader_done na_CTextReader_rows cdv A0 outer s H E m hx hr, eq_read A⟩
abbrev s__law_taken : Stmt := top 23
theorem sc__law_taken : FnScope ["_law_row", "_law_many", "_law_found", "_law_cell"] ["_law_row", "_law_many"] (defScope s__law_taken) := ⟨rfl, rfl, rfl, by decide +kernel, rfl, by decide +kernel, by decide +kernel⟩
theorem dv__law_taken (b_int : mg "int" = none) (b_len : mg "len" = none) {f : Addr} (cdv : Value) (A0 : Around) (outer : List Env) (s : Shared) (H : Hp) (E : XK) (m : Fm) (hx : m.ex = none) (hr : Room 1 (A0.deeper (PyProof.Rows.envOfC "_law_taken" (defScope s__law_taken) s.heap.objs.size f cdv))) : DB (cxOf (L2.CX P w) P w K mg base ["_law_row", "_law_many", "_law_found", "_law_cell"] "_law_taken" (defScope s__law_taken) f cdv A0 outer s H E) m (WD E) (defBody s__law_taken) (gb__law_taken) :=
  b_cons (s_if (t_gt (d_ixO (i := 0) (d_int)) (d_int)) (b_cons (s_set (i := 2) sc__law_taken.nd rfl (Or.inl rfl) (e_mod (d_callTy call_int1 cd_int (by rfl) b_int rfl (l_cons (d_ixO (i := 0) (d_int)) (l_nil))) (d_var 1))) (b_cons (s_putL (i := 0) (e_fdiv (d_ixO (i := 0) (d_int)) (d_var 1)) (d_int)) (b_one (s_ret (d_var 2))))) (b_nil)) (b_cons (s_putL (i := 0) (e_add (d_ixO (i := 0) (d_int)) (d_int)) (d_int)) (b_cons (s_if (t_gt (d_ixO (i := 0) (d_int)) (d_callB call_len cd_len (by rfl) b_len rfl (l_cons (d_ixO (i := 0) (d_int)) (l_nil)))) (b_cons (s_putL (i := 0) (e_mod (d_callTy call_int1 cd_int (by rfl) b_int rfl (l_cons (e_add (e_mul (d_ixO (i := 0) (d_int)) (d_int)) (d_int)) (l_nil))) (d_int)) (d_int)) (b_one (s_ret (e_mod (d_callTy call_int1 cd_int (by rfl) b_int rfl (l_cons (e_fdiv (d_ixO (i := 0) (d_int)) (d_int)) (l_nil))) (d_var 1))))) (b_nil)) (b_cons (s_set (i := 3) sc__law_taken.nd rfl (Or.inl rfl) (d_ix (d_ixO (i := 0) (d_int)) (e_sub (d_ixO (i := 0) (d_int)) (d_int)))) (b_cons (s_putL (i := 0) (e_mod (d_callTy call_int1 cd_int (by rfl) b_int rfl (l_cons (e_add (e_add (e_mul (d_ixO (i := 0) (d_int)) (d_int)) (d_var 3)) (d_int)) (l_nil))) (d_int)) (d_int)) (b_cons (s_if (t_ge (d_var 3) (e_pow (d_int) (d_int))) (b_one (s_putL (i := 0) (e_fdiv (d_var 3) (d_var 1)) (d_int))) (b_nil)) (b_one (s_ret (e_mod (d_callTy call_int1 cd_int (by rfl) b_int rfl (l_cons (d_var 3) (l_nil))) (d_var 1)))))))))
theorem len__law_taken : ∀ as, f__law_taken as ≠ .stuck → as.length = 2 := by
  intro as h
  first
    | exact lenx__law_taken as h
    | (unfold f__law_taken at h; split at h; (first | rfl | (rename_i z; exact selfArgs_len z)); exact absurd rfl h)
theorem ok__law_taken (b_int : mg "int" = none) (b_len : mg "len" = none) {f : Addr} {fd : FuncData} (Fd : Fun K "_law_taken" "_law_taken" s__law_taken f fd) : FnOk P w K mg base (L2.CX P w) 2 f fd ["_law_row", "_law_many"] (spF K f__law_taken) :=
  fn_lt Fd sc__law_taken (len__law_taken) ⟨gb__law_taken, fun cdv A0 outer s H E m hx hr => dv__law_taken b_int b_len cdv A0 outer s H E m hx hr, eq__law_taken⟩
abbrev s__law_some : Stmt := top 24
theorem sc__law_some : FnScope ["_law_row", "_law_places", "_law_most", "_law_found", "_law_place"] ["_law_row", "_law_places", "_law_most"] (defScope s__law_some) := ⟨rfl, rfl, rfl, by decide +kernel, rfl, by decide +kernel, by decide +kernel⟩
theorem dv__law_some (b_len : mg "len" = none) (b_tuple : mg "tuple" = none) (c__law_taken : Cal P w K mg base "_law_taken" 2 f__law_taken) {f : Addr} (cdv : Value) (A0 : Around) (outer : List Env) (s : Shared) (H : Hp) (E : XK) (m : Fm) (hx : m.ex = none) (hr : Room 2 (A0.deeper (PyProof.Rows.envOfC "_law_some" (defScope s__law_some) s.heap.objs.size f cdv))) : DB (cxOf (L2.CX P w) P w K mg base ["_law_row", "_law_places", "_law_most", "_law_found", "_law_place"] "_law_some" (defScope s__law_some) f cdv A0 outer s H E) m (WD E) (defBody s__law_some) (gb__law_some) :=
  b_cons (s_setO (i := 3) sc__law_some.nd rfl (Or.inl rfl) (o_lst (l_nil))) (b_cons (s_for (passes_of rfl) rfl (i_seq (d_var 1)) (g_name (i := 4) sc__law_some.nd rfl (Or.inl rfl)) (b_one (s_if (t_bool (w_and (t_lt (d_lenO 3 (by rfl) b_len) (d_var 2)) (w_and1 (t_eq hr (d_callO c__law_taken hr (takes_of rfl rfl rfl rfl) (ar_slot 0 (ar_val (d_int) (ar_nil)))) (d_int))))) (b_one (s_append (i := 3) (d_var 4))) (b_nil)))) (b_one (s_frz 3 (s_ret (d_callTy call_tuple_of cd_tuple (by rfl) b_tuple rfl (l_cons (d_var 3) (l_nil)))))))
theorem len__law_some : ∀ as, f__law_some as ≠ .stuck → as.length = 3 := by
  intro as h
  first
    | exact lenx__law_some as h
    | (unfold f__law_some at h; split at h; (first | rfl | (rename_i z; exact selfArgs_len z)); exact absurd rfl h)
theorem ok__law_some (b_len : mg "len" = none) (b_tuple : mg "tuple" = none) (c__law_taken : Cal P w K mg base "_law_taken" 2 f__law_taken) {f : Addr} {fd : FuncData} (Fd : Fun K "_law_some" "_law_some" s__law_some f fd) : FnOk P w K mg base (L2.CX P w) 3 f fd ["_law_row", "_law_places", "_law_most"] (spF K f__law_some) :=
  fn_lt Fd sc__law_some (len__law_some) ⟨gb__law_some, fun cdv A0 outer s H E m hx hr => dv__law_some b_len b_tuple c__law_taken cdv A0 outer s H E m hx hr, eq__law_some⟩
abbrev s__law_drawn : Stmt := top 25
theorem sc__law_drawn : FnScope ["_law_row", "_law_d"] ["_law_row"] (defScope s__law_drawn) := ⟨rfl, rfl, rfl, by decide +kernel, rfl, by decide +kernel, by decide +kernel⟩
theorem dv__law_drawn (c__law_some : Cal P w K mg base "_law_some" 3 f__law_some) (c__law_taken : Cal P w K mg base "_law_taken" 2 f__law_taken) {f : Addr} (cdv : Value) (A0 : Around) (outer : List Env) (s : Shared) (H : Hp) (E : XK) (m : Fm) (hx : m.ex = none) (hr : Room 3 (A0.deeper (PyProof.Rows.envOfC "_law_drawn" (defScope s__law_drawn) s.heap.objs.size f cdv))) : DB (cxOf (L2.CX P w) P w K mg base ["_law_row", "_law_d"] "_law_drawn" (defScope s__law_drawn) f cdv A0 outer s H E) m (WD E) (defBody s__law_drawn) (gb__law_drawn) :=
  b_cons (s_setO (i := 1) sc__law_drawn.nd rfl (Or.inl rfl) (o_dict (dps_cons (fun m => d_str) (fun m => d_callO c__law_some hr (takes_of rfl rfl rfl rfl) (ar_slot 0 (ar_val (d_lst (l_cons (d_int) (l_cons (d_int) (l_cons (d_int) (l_cons (d_int) (l_cons (d_int) (l_nil))))))) (ar_val (d_int) (ar_nil))))) (dps_cons (fun m => d_str) (fun m => d_callO c__law_some hr (takes_of rfl rfl rfl rfl) (ar_slot 0 (ar_val (d_lst (l_cons (d_int) (l_cons (d_int) (l_cons (d_int) (l_cons (d_int) (l_nil)))))) (ar_val (d_int) (ar_nil))))) (dps_nil))))) (b_cons (s_dput (i := 1) hr (d_ix (d_lst (l_cons (d_str) (l_cons (d_str) (l_cons (d_str) (l_nil))))) (d_callO c__law_taken hr (takes_of rfl rfl rfl rfl) (ar_slot 0 (ar_val (d_int) (ar_nil))))) (d_str)) (b_cons (s_if (t_bool (w_and (t_eq hr (d_dget (i := 1) hr (d_str)) (d_tup (l_nil))) (w_and1 (t_eq hr (d_dget (i := 1) hr (d_str)) (d_tup (l_nil)))))) (b_one (s_dput (i := 1) hr (d_tup (l_cons (e_add (d_int) (d_callO c__law_taken hr (takes_of rfl rfl rfl rfl) (ar_slot 0 (ar_val (d_int) (ar_nil))))) (l_nil))) (d_str))) (b_nil)) (b_one (s_retO 1))))
theorem len__law_drawn : ∀ as, f__law_drawn as ≠ .stuck → as.length = 1 := by
  intro as h
  first
    | exact lenx__law_drawn as h
    | (unfold f__law_drawn at h; split at h; (first | rfl | (rename_i z; exact selfArgs_len z)); exact absurd rfl h)
theorem ok__law_drawn (c__law_some : Cal P w K mg base "_law_some" 3 f__law_some) (c__law_taken : Cal P w K mg base "_law_taken" 2 f__law_taken) {f : Addr} {fd : FuncData} (Fd : Fun K "_law_drawn" "_law_drawn" s__law_drawn f fd) : FnOk P w K mg base (L2.CX P w) 4 f fd ["_law_row"] (spF K f__law_drawn) :=
  fn_lt Fd sc__law_drawn (len__law_drawn) ⟨gb__law_drawn, fun cdv A0 outer s H E m hx hr => dv__law_drawn c__law_some c__law_taken cdv A0 outer s H E m hx hr, eq__law_drawn⟩
abbrev s__law_line_wrong : Stmt := top 28
theorem sc__law_line_wrong : FnScope ["_law_k", "_law_words", "_law_low", "_law_last", "_law_many", "_law_spot", "_law_place"] ["_law_k", "_law_words"] (defScope s__law_line_wrong) := ⟨rfl, rfl, rfl, by decide +kernel, rfl, by decide +kernel, by decide +kernel⟩
theorem dv__law_line_wrong (b_int : mg "int" = none) (b_len : mg "len" = none) (b_range : mg "range" = none) (b_str : mg "str" = none) {f : Addr} (cdv : Value) (A0 : Around) (outer : List Env) (s : Shared) (H : Hp) (E : XK) (m : Fm) (hx : m.ex = none) (hr : Room 1 (A0.deeper (PyProof.Rows.envOfC "_law_line_wrong" (defScope s__law_line_wrong) s.heap.objs.size f cdv))) : DB (cxOf (L2.CX P w) P w K mg base ["_law_k", "_law_words", "_law_low", "_law_last", "_law_many", "_law_spot", "_law_place"] "_law_line_wrong" (defScope s__law_line_wrong) f cdv A0 outer s H E) m (WD E) (defBody s__law_line_wrong) (gb__law_line_wrong) :=
  b_cons (s_if (t_bool (w_or (t_eq hr (d_var 1) (d_lst (l_nil))) (w_or1 (t_ne hr (d_ix (d_var 1) (d_int)) (d_ix (d_lst (l_cons (d_str) (l_cons (d_str) (l_cons (d_str) (l_nil))))) (d_var 0)))))) (b_one (s_ret (d_int))) (b_nil)) (b_cons (s_if (t_eq hr (d_var 0) (d_int)) (b_cons (s_if (t_bool (w_or (t_lt (d_callB call_len cd_len (by rfl) b_len rfl (l_cons (d_var 1) (l_nil))) (d_int)) (w_or1 (t_notIn (d_ix (d_var 1) (d_int)) (d_tup (l_cons (d_str) (l_cons (d_str) (l_cons (d_str) (l_nil))))))))) (b_one (s_ret (d_int))) (b_nil)) (b_one (s_ret (d_if (t_gt (d_callB call_len cd_len (by rfl) b_len rfl (l_cons (d_var 1) (l_nil))) (d_int)) (d_int) (d_non))))) (b_nil)) (b_cons (s_par3N (i := 2) (j := 3) (l := 4) rfl sc__law_line_wrong.nd rfl rfl rfl (by decide) (by decide) (by decide) rfl rfl rfl (n_val (fun m => d_int) (n_val (fun m => d_ix (d_lst (l_cons (d_int) (l_cons (d_int) (l_nil)))) (d_var 0)) (n_val (fun m => d_ix (d_lst (l_cons (d_int) (l_cons (d_int) (l_nil)))) (d_var 0)) (n_nil)))) rfl) (b_cons (s_for (passes_of rfl) rfl (i_range2 (by rfl) b_range (l_cons (d_int) (l_cons (d_callB call_len cd_len (by rfl) b_len rfl (l_cons (d_var 1) (l_nil))) (l_nil)))) (g_name (i := 5) sc__law_line_wrong.nd rfl (Or.inl rfl)) (b_cons (s_if (t_bool (w_or (t_gt (d_var 5) (d_var 4)) (w_or1 (t_notIn (d_ix (d_var 1) (d_var 5)) (d_lc rfl sc__law_line_wrong.nd (own := [("_law_place", 6)]) (blkOk_by (N := ["_law_k", "_law_words", "_law_low", "_law_last", "_law_many", "_law_spot", "_law_place"]) (sc := defScope s__law_line_wrong) (by decide +kernel)) (i_range2 (by rfl) b_range (l_cons (d_var 2) (l_cons (e_add (d_var 3) (d_int)) (l_nil)))) (fun m s H C cl fp => g_nameV (i := 6) (by decide) sc__law_line_wrong.nd rfl (by first | exact Or.inl rfl | exact Or.inr rfl)) (fun m s H C cl fp => ts_nil) (fun m s H C cl fp => d_callTy cr_str cd_str (by rfl) b_str rfl (l_cons (d_var 6) (l_nil)))))))) (b_one (s_ret (e_add (d_var 5) (d_int)))) (b_nil)) (b_one (s_set (i := 2) sc__law_line_wrong.nd rfl (Or.inl rfl) (e_add (d_callTy call_int_str cd_intS (by rfl) b_int rfl (l_cons (d_ix (d_var 1) (d_var 5)) (l_nil))) (d_int)))))) (b_one (s_ret (d_non))))))
theorem ok__law_line_wrong (b_int : mg "int" = none) (b_len : mg "len" = none) (b_range : mg "range" = none) (b_str : mg "str" = none) {f : Addr} {fd : FuncData} (Fd : Fun K "_law_line_wrong" "_law_line_wrong" s__law_line_wrong f fd) : FnOk P w K mg base (L2.CX P w) 2 f fd ["_law_k", "_law_words"] (spF K (pureF f__law_line_wrong)) :=
  fn_pure Fd sc__law_line_wrong (P2.len) ⟨gb__law_line_wrong, fun cdv A0 outer s H E m hx hr => dv__law_line_wrong b_int b_len b_range b_str cdv A0 outer s H E m hx hr, eq__law_line_wrong⟩
abbrev s__law_wrong : Stmt := top 29
theorem sc__law_wrong : FnScope ["_law_rows", "_law_k", "_law_told"] ["_law_rows"] (defScope s__law_wrong) := ⟨rfl, rfl, rfl, by decide +kernel, rfl, by decide +kernel, by decide +kernel⟩
theorem dv__law_wrong (b_len : mg "len" = none) (b_range : mg "range" = none) (c__law_line_wrong : Cal P w K mg base "_law_line_wrong" 2 (pureF f__law_line_wrong)) {f : Addr} (cdv : Value) (A0 : Around) (outer : List Env) (s : Shared) (H : Hp) (E : XK) (m : Fm) (hx : m.ex = none) (hr : Room 2 (A0.deeper (PyProof.Rows.envOfC "_law_wrong" (defScope s__law_wrong) s.heap.objs.size f cdv))) : DB (cxOf (L2.CX P w) P w K mg base ["_law_rows", "_law_k", "_law_told"] "_law_wrong" (defScope s__law_wrong) f cdv A0 outer s H E) m (WD E) (defBody s__law_wrong) (gb__law_wrong) :=
  b_cons (s_for (passes_of rfl) rfl (i_range1 (by rfl) b_range (l_cons (d_callB call_len cd_len (by rfl) b_len rfl (l_cons (d_var 0) (l_nil))) (l_nil))) (g_name (i := 1) sc__law_wrong.nd rfl (Or.inl rfl)) (b_cons (s_if (t_eq hr (d_var 1) (d_int)) (b_one (s_ret (d_lst (l_cons (d_int) (l_cons (d_int) (l_nil)))))) (b_nil)) (b_cons (s_set (i := 2) sc__law_wrong.nd rfl (Or.inl rfl) (d_callC c__law_line_wrong hr (takes_of rfl rfl rfl rfl) (l_cons (d_var 1) (l_cons (d_ix (d_var 0) (d_var 1)) (l_nil))))) (b_one (s_if (t_isNot (d_var 2) (d_non)) (b_one (s_ret (d_lst (l_cons (e_add (d_var 1) (d_int)) (l_cons (d_var 2) (l_nil)))))) (b_nil)))))) (b_one (s_ret (d_if (t_lt (d_callB call_len cd_len (by rfl) b_len rfl (l_cons (d_var 0) (l_nil))) (d_int)) (d_lst (l_cons (e_add (d_callB call_len cd_len (by rfl) b_len rfl (l_cons (d_var 0) (l_nil))) (d_int)) (l_cons (d_int) (l_nil)))) (d_non))))
theorem ok__law_wrong (b_len : mg "len" = none) (b_range : mg "range" = none) (c__law_line_wrong : Cal P w K mg base "_law_line_wrong" 2 (pureF f__law_line_wrong)) {f : Addr} {fd : FuncData} (Fd : Fun K "_law_wrong" "_law_wrong" s__law_wrong f fd) : FnOk P w K mg base (L2.CX P w) 3 f fd ["_law_rows"] (spF K (pureF f__law_wrong)) :=
  fn_pure Fd sc__law_wrong (P1.len) ⟨gb__law_wrong, fun cdv A0 outer s H E m hx hr => dv__law_wrong b_len b_range c__law_line_wrong cdv A0 outer s H E m hx hr, eq__law_wrong⟩
abbrev s__law_refused : Stmt := top 30
theorem sc__law_refused : FnScope ["_law_text", "_law_told", "e"] ["_law_text"] (defScope s__law_refused) := ⟨rfl, rfl, rfl, by decide +kernel, rfl, by decide +kernel, by decide +kernel⟩
theorem dv__law_refused (c_read : Cal P w K mg base "read" 7 (pureF (f_read A))) (k_InvalidText : mg "InvalidText" = some (.ref A.CInvalidText)) (no_InvalidText_line : PySem.W.findIn K (.ref A.CInvalidText) "line" = some none) (no_InvalidText_word : PySem.W.findIn K (.ref A.CInvalidText) "word" = some none) (x_InvalidBack_InvalidText : Exm K A.CInvalidBack A.CInvalidText false) (x_InvalidFront_InvalidText : Exm K A.CInvalidFront A.CInvalidText false) (x_InvalidRule_InvalidText : Exm K A.CInvalidRule A.CInvalidText false) (x_InvalidText_InvalidText : Exm K A.CInvalidText A.CInvalidText false) (xf_InvalidText : XfC K A.CInvalidText) {f : Addr} (cdv : Value) (A0 : Around) (outer : List Env) (s : Shared) (H : Hp) (E : XK) (m : Fm) (hx : m.ex = none) (hr : Room 7 (A0.deeper (PyProof.Rows.envOfC "_law_refused" (defScope s__law_refused) s.heap.objs.size f cdv))) : DB (cxOf (L2.CX P w) P w K mg base ["_law_text", "_law_told", "e"] "_law_refused" (defScope s__law_refused) f cdv A0 outer s H E) m (WD E) (defBody s__law_refused) (gb__law_refused A) :=
  b_cons (s_set (i := 1) sc__law_refused.nd rfl (Or.inl rfl) (d_non)) (b_cons (s_try rfl rfl (takes_of rfl rfl rfl rfl) hx (fun W pn xe tk ps => b_one (s_expr (d_callC c_read hr tk (l_cons (d_var 0) (l_nil))))) (.named ⟨rfl, by decide, .inl k_InvalidText⟩ sc__law_refused.nd rfl rfl (exs_cons x_InvalidFront_InvalidText (exs_cons x_InvalidBack_InvalidText (exs_cons x_InvalidRule_InvalidText (exs_cons x_InvalidText_InvalidText (exs_nil))))) (fun a oe d pn m hz hf ok => b_one (s_set (i := 1) sc__law_refused.nd rfl (Or.inl rfl) (d_lst (l_cons (d_byX (i := 2) xf_InvalidText no_InvalidText_line hz hf ok) (l_cons (d_byX (i := 2) xf_InvalidText no_InvalidText_word hz hf ok) (l_nil)))))) (.nil))) (b_one (s_ret (d_var 1))))
theorem ok__law_refused (c_read : Cal P w K mg base "read" 7 (pureF (f_read A))) (k_InvalidText : mg "InvalidText" = some (.ref A.CInvalidText)) (no_InvalidText_line : PySem.W.findIn K (.ref A.CInvalidText) "line" = some none) (no_InvalidText_word : PySem.W.findIn K (.ref A.CInvalidText) "word" = some none) (x_InvalidBack_InvalidText : Exm K A.CInvalidBack A.CInvalidText false) (x_InvalidFront_InvalidText : Exm K A.CInvalidFront A.CInvalidText false) (x_InvalidRule_InvalidText : Exm K A.CInvalidRule A.CInvalidText false) (x_InvalidText_InvalidText : Exm K A.CInvalidText A.CInvalidText false) (xf_InvalidText : XfC K A.CInvalidText) {f : Addr} {fd : FuncData} (Fd : Fun K "_law_refused" "_law_refused" s__law_refused f fd) : FnOk P w K mg base (L2.CX P w) 8 f fd ["_law_text"] (spF K (pureF (f__law_refused A))) :=
  fn_pure Fd sc__law_refused (P1.len) ⟨gb__law_refused A, fun cdv A0 outer s H E m hx hr => dv__law_refused c_read k_InvalidText no_InvalidText_line no_InvalidText_word x_InvalidBack_InvalidText x_InvalidFront_InvalidText x_InvalidRule_InvalidText x_InvalidText_InvalidText xf_InvalidText cdv A0 outer s H E m hx hr, eq__law_refused A⟩
abbrev s_law : Stmt := top 31
theorem sc_law : FnScope ["_law_script", "_law_row", "_law_odd", "_law_turn", "_law_d", "_law_rows", "_law_k", "_law_place", "_law_kind", "_law_words", "_law_spot", "_law_more", "_law_same", "_law_pair", "_law_lines", "_law_n"] ["_law_script"] (defScope s_law) := ⟨rfl, rfl, rfl, by decide +kernel, rfl, by decide +kernel, by decide +kernel⟩
theorem dv_law (b_int : mg "int" = none) (b_len : mg "len" = none) (b_range : mg "range" = none) (b_str : mg "str" = none) (c__law_drawn : Cal P w K mg base "_law_drawn" 4 f__law_drawn) (c__law_refused : Cal P w K mg base "_law_refused" 8 (pureF (f__law_refused A))) (c__law_taken : Cal P w K mg base "_law_taken" 2 f__law_taken) (c__law_wrong : Cal P w K mg base "_law_wrong" 3 (pureF f__law_wrong)) (c_read : Cal P w K mg base "read" 7 (pureF (f_read A))) (ic_Plan : IsC K A.CPlan) (m_Plan : CalC P w K mg base "Plan" A.CPlan 5 (f_Plan2 A)) (q_Plan : EqC P w K mg base A.CPlan 3 (f_planEq A)) {f : Addr} (cdv : Value) (A0 : Around) (outer : List Env) (s : Shared) (H : Hp) (E : XK) (m : Fm) (hx : m.ex = none) (hr : Room 8 (A0.deeper (PyProof.Rows.envOfC "law" (defScope s_law) s.heap.objs.size f cdv))) : DB (cxOf (L2.CX P w) P w K mg base ["_law_script", "_law_row", "_law_odd", "_law_turn", "_law_d", "_law_rows", "_law_k", "_law_place", "_law_kind", "_law_words", "_law_spot", "_law_more", "_law_same", "_law_pair", "_law_lines", "_law_n"] "law" (defScope s_law) f cdv A0 outer s H E) m (WD E) (defBody s_law) (gb_law A) :=
  b_cons (s_setO (i := 1) sc_law.nd rfl (Or.inl rfl) (o_lst (l_cons (d_var 0) (l_cons (d_int) (l_cons (d_int) (l_cons (d_int) (l_nil))))))) (b_cons (s_set (i := 2) sc_law.nd rfl (Or.inl rfl) (d_lst (l_cons (d_str) (l_cons (d_str) (l_cons (d_str) (l_cons (d_str) (l_cons (d_str) (l_cons (d_str) (l_cons (d_str) (l_cons (d_str) (l_cons (d_str) (l_cons (d_str) (l_cons (d_str) (l_cons (d_str) (l_cons (d_str) (l_cons (d_str) (l_cons (d_str) (l_cons (d_str) (l_nil))))))))))))))))))) (b_cons (s_for (passes_of rfl) rfl (i_range1 (by rfl) b_range (l_cons (d_int) (l_nil))) (g_name (i := 3) sc_law.nd rfl (Or.inl rfl)) (b_cons (s_setO (i := 4) sc_law.nd rfl (Or.inl rfl) (o_callO c__law_drawn hr (takes_of rfl rfl rfl rfl) (ar_slot 1 (ar_nil)))) (b_cons (s_set (i := 5) sc_law.nd rfl (Or.inl rfl) (d_lst (l_cons (e_add (d_lst (l_cons (d_str) (l_nil))) (d_lc rfl sc_law.nd (own := [("_law_n", 15)]) (blkOk_by (N := ["_law_script", "_law_row", "_law_odd", "_law_turn", "_law_d", "_law_rows", "_law_k", "_law_place", "_law_kind", "_law_words", "_law_spot", "_law_more", "_law_same", "_law_pair", "_law_lines", "_law_n"]) (sc := defScope s_law) (by decide +kernel)) (i_seq (d_dget (i := 4) hr (d_str))) (fun m s H C cl fp => g_nameV (i := 15) (by decide) sc_law.nd rfl (by first | exact Or.inl rfl | exact Or.inr rfl)) (fun m s H C cl fp => ts_nil) (fun m s H C cl fp => d_callTy cr_str cd_str (by rfl) b_str rfl (l_cons (d_var 15) (l_nil))))) (l_cons (e_add (d_lst (l_cons (d_str) (l_nil))) (d_lc rfl sc_law.nd (own := [("_law_n", 15)]) (blkOk_by (N := ["_law_script", "_law_row", "_law_odd", "_law_turn", "_law_d", "_law_rows", "_law_k", "_law_place", "_law_kind", "_law_words", "_law_spot", "_law_more", "_law_same", "_law_pair", "_law_lines", "_law_n"]) (sc := defScope s_law) (by decide +kernel)) (i_seq (d_dget (i := 4) hr (d_str))) (fun m s H C cl fp => g_nameV (i := 15) (by decide) sc_law.nd rfl (by first | exact Or.inl rfl | exact Or.inr rfl)) (fun m s H C cl fp => ts_nil) (fun m s H C cl fp => d_callTy cr_str cd_str (by rfl) b_str rfl (l_cons (d_var 15) (l_nil))))) (l_cons (d_lst (l_cons (d_str) (l_cons (d_dget (i := 4) hr (d_str)) (l_nil)))) (l_nil)))))) (b_cons (s_for (passes_of rfl) rfl (i_range1 (by rfl) b_range (l_cons (e_add (d_int) (d_callO c__law_taken hr (takes_of rfl rfl rfl rfl) (ar_slot 1 (ar_val (d_int) (ar_nil))))) (l_nil))) (g_name (i := 6) sc_law.nd rfl (Or.inl rfl)) (b_cons (s_par (i := 7) (j := 8) rfl sc_law.nd rfl rfl (by decide) rfl rfl (l_cons (d_callO c__law_taken hr (takes_of rfl rfl rfl rfl) (ar_slot 1 (ar_val (d_callB call_len cd_len (by rfl) b_len rfl (l_cons (d_var 5) (l_nil))) (ar_nil)))) (l_cons (d_callO c__law_taken hr (takes_of rfl rfl rfl rfl) (ar_slot 1 (ar_val (d_int) (ar_nil)))) (l_nil))) rfl) (b_cons (s_set (i := 9) sc_law.nd rfl (Or.inl rfl) (d_ix (d_var 5) (d_var 7))) (b_cons (s_set (i := 10) sc_law.nd rfl (Or.inl rfl) (d_callO c__law_taken hr (takes_of rfl rfl rfl rfl) (ar_slot 1 (ar_val (e_add (d_callB call_len cd_len (by rfl) b_len rfl (l_cons (d_var 9) (l_nil))) (d_int)) (ar_nil))))) (b_cons (s_set (i := 11) sc_law.nd rfl (Or.inl rfl) (d_if (t_ne hr (d_var 8) (d_int)) (d_lst (l_cons (d_ix (d_var 2) (d_callO c__law_taken hr (takes_of rfl rfl rfl rfl) (ar_slot 1 (ar_val (d_callB call_len cd_len (by rfl) b_len rfl (l_cons (d_var 2) (l_nil))) (ar_nil))))) (l_nil))) (d_lst (l_nil)))) (b_cons (s_if (t_lt (d_var 8) (d_int)) (b_cons (s_set (i := 9) sc_law.nd rfl (Or.inl rfl) (e_add (e_add (d_slice (d_var 9) (o_none) (o_some (d_var 10))) (d_var 11)) (d_slice (d_var 9) (o_some (e_add (d_var 10) (d_callTy call_int1 cd_int (by rfl) b_int rfl (l_cons (e_in (d_var 8) (d_tup (l_cons (d_int) (l_cons (d_int) (l_nil))))) (l_nil))))) (o_none)))) (b_one (s_set (i := 5) sc_law.nd rfl (Or.inl rfl) (e_add (e_add (d_slice (d_var 5) (o_none) (o_some (d_var 7))) (d_lst (l_cons (d_var 9) (l_nil)))) (d_slice (d_var 5) (o_some (e_add (d_var 7) (d_int))) (o_none)))))) (b_one (s_if (t_eq hr (d_var 8) (d_int)) (b_cons (s_set (i := 12) sc_law.nd rfl (Or.inl rfl) (e_mul (d_lst (l_cons (d_var 9) (l_nil))) (e_mul (d_int) (d_callO c__law_taken hr (takes_of rfl rfl rfl rfl) (ar_slot 1 (ar_val (d_int) (ar_nil))))))) (b_one (s_set (i := 5) sc_law.nd rfl (Or.inl rfl) (e_add (e_add (d_slice (d_var 5) (o_none) (o_some (d_var 7))) (d_var 12)) (d_slice (d_var 5) (o_some (e_add (d_var 7) (d_int))) (o_none)))))) (b_cons (s_set (i := 13) sc_law.nd rfl (Or.inl rfl) (d_rev (d_slice (d_var 5) (o_some (d_var 7)) (o_some (e_add (d_var 7) (d_int)))))) (b_one (s_set (i := 5) sc_law.nd rfl (Or.inl rfl) (e_add (e_add (d_slice (d_var 5) (o_none) (o_some (d_var 7))) (d_var 13)) (d_slice (d_var 5) (o_some (e_add (d_var 7) (d_int))) (o_none))))))))) (b_one (s_set (i := 5) sc_law.nd rfl (Or.inl rfl) (d_orL (d_var 5) (d_one (d_lst (l_cons (d_lst (l_nil)) (l_nil))))))))))))) (b_cons (s_setLc (i := 14) rfl sc_law.nd rfl rfl rfl (own := [("_law_words", 9)]) (blkOk_by (N := ["_law_script", "_law_row", "_law_odd", "_law_turn", "_law_d", "_law_rows", "_law_k", "_law_place", "_law_kind", "_law_words", "_law_spot", "_law_more", "_law_same", "_law_pair", "_law_lines", "_law_n"]) (sc := defScope s_law) (by decide +kernel)) (i_seq (d_var 5)) (fun m s H C cl fp => g_nameV (i := 9) (by decide) sc_law.nd rfl (by first | exact Or.inl rfl | exact Or.inr rfl)) (fun m s H C cl fp => ts_nil) (fun m s H C cl fp => d_join (d_str) (d_var 9))) (b_one (s_if (t_ne hr (d_callC c__law_refused hr (takes_of rfl rfl rfl rfl) (l_cons (d_join (d_str) (d_var 14)) (l_nil))) (d_callC c__law_wrong hr (takes_of rfl rfl rfl rfl) (l_cons (d_var 5) (l_nil)))) (b_one (s_ret (d_bl))) (b_nil)))))))) (b_one (s_ret (d_and (e_eq hr (d_callC c__law_refused hr (takes_of rfl rfl rfl rfl) (l_cons (d_str) (l_nil))) (d_lst (l_cons (d_int) (l_cons (d_int) (l_nil))))) (d_one (d_eqV (c_eqV ic_Plan q_Plan (eqsh_Plan A) hr (takes_of rfl rfl rfl rfl) (d_frz (o_make m_Plan hr (takes_of rfl rfl rfl rfl) (l_cons (d_tup (l_nil)) (l_cons (d_tup (l_nil)) (l_cons (d_str) (l_nil)))))) (d_callC c_read hr (takes_of rfl rfl rfl rfl) (l_cons (d_str) (l_nil)))))))))))
theorem ok_law (b_int : mg "int" = none) (b_len : mg "len" = none) (b_range : mg "range" = none) (b_str : mg "str" = none) (c__law_drawn : Cal P w K mg base "_law_drawn" 4 f__law_drawn) (c__law_refused : Cal P w K mg base "_law_refused" 8 (pureF (f__law_refused A))) (c__law_taken : Cal P w K mg base "_law_taken" 2 f__law_taken) (c__law_wrong : Cal P w K mg base "_law_wrong" 3 (pureF f__law_wrong)) (c_read : Cal P w K mg base "read" 7 (pureF (f_read A))) (ic_Plan : IsC K A.CPlan) (m_Plan : CalC P w K mg base "Plan" A.CPlan 5 (f_Plan2 A)) (q_Plan : EqC P w K mg base A.CPlan 3 (f_planEq A)) {f : Addr} {fd : FuncData} (Fd : Fun K "law" "law" s_law f fd) : FnOk P w K mg base (L2.CX P w) 9 f fd ["_law_script"] (spF K (pureF f_law)) :=
  fn_pure Fd sc_law (P1.len) ⟨gb_law A, fun cdv A0 outer s H E m hx hr => dv_law b_int b_len b_range b_str c__law_drawn c__law_refused c__law_taken c__law_wrong c_read ic_Plan m_Plan q_Plan cdv A0 outer s H E m hx hr, eq_law A⟩
abbrev s_InvalidFront___init__ : Stmt := inClass (top 2) 0
theorem sc_InvalidFront___init__ : FnScope ["self"] ["self"] (defScope s_InvalidFront___init__) := ⟨rfl, rfl, rfl, by decide +kernel, rfl, by decide +kernel, by decide +kernel⟩
theorem ok_InvalidFront___init__ {T : Addr} (B : BasC K mg "TicketError" T) {f : Addr} {fd : FuncData} (Fd : Fun K "__init__" "InvalidFront.__init__" s_InvalidFront___init__ f fd) : FnOk P w K mg base (L2.CX P w) 1 f fd ["self"] (spE0 K) :=
  ok_e0 Fd sc_InvalidFront___init__ fun cdv A0 outer s H E => pss_one (ps_expr (pe_base B (pa_cons (pv 0) (pa_cons pe_str pa_nil))))
abbrev s_InvalidBack___init__ : Stmt := inClass (top 3) 0
theorem sc_InvalidBack___init__ : FnScope ["self"] ["self"] (defScope s_InvalidBack___init__) := ⟨rfl, rfl, rfl, by decide +kernel, rfl, by decide +kernel, by decide +kernel⟩
theorem ok_InvalidBack___init__ {T : Addr} (B : BasC K mg "TicketError" T) {f : Addr} {fd : FuncData} (Fd : Fun K "__init__" "InvalidBack.__init__" s_InvalidBack___init__ f fd) : FnOk P w K mg base (L2.CX P w) 1 f fd ["self"] (spE0 K) :=
  ok_e0 Fd sc_InvalidBack___init__ fun cdv A0 outer s H E => pss_one (ps_expr (pe_base B (pa_cons (pv 0) (pa_cons pe_str pa_nil))))
abbrev s_InvalidRule___init__ : Stmt := inClass (top 4) 0
theorem sc_InvalidRule___init__ : FnScope ["self"] ["self"] (defScope s_InvalidRule___init__) := ⟨rfl, rfl, rfl, by decide +kernel, rfl, by decide +kernel, by decide +kernel⟩
theorem ok_InvalidRule___init__ {T : Addr} (B : BasC K mg "TicketError" T) {f : Addr} {fd : FuncData} (Fd : Fun K "__init__" "InvalidRule.__init__" s_InvalidRule___init__ f fd) : FnOk P w K mg base (L2.CX P w) 1 f fd ["self"] (spE0 K) :=
  ok_e0 Fd sc_InvalidRule___init__ fun cdv A0 outer s H E => pss_one (ps_expr (pe_base B (pa_cons (pv 0) (pa_cons pe_str pa_nil))))
abbrev s_InvalidText___init__ : Stmt := inClass (top 5) 0
theorem sc_InvalidText___init__ : FnScope ["self", "line", "word"] ["self", "line", "word"] (defScope s_InvalidText___init__) := ⟨rfl, rfl, rfl, by decide +kernel, rfl, by decide +kernel, by decide +kernel⟩
theorem ok_InvalidText___init__ {T : Addr} (B : BasC K mg "TicketError" T) {f : Addr} {fd : FuncData} (Fd : Fun K "__init__" "InvalidText.__init__" s_InvalidText___init__ f fd) : FnOk P w K mg base (L2.CX P w) 1 f fd ["self", "line", "word"] (spE2 K "line" "word") :=
  ok_e2 rfl (by decide) Fd sc_InvalidText___init__ fun cdv A0 outer s H E => pss_cons (ps_expr (pe_base B (pa_cons (pv 0) (pa_cons pe_str pa_nil)))) (pss_cons (ps_ost (pv 0) (pv 1)) (pss_one (ps_ost (pv 0) (pv 2))))
end
theorem selfBinds : True := trivial
theorem all_mk {l : PySem.W.OpenLaw} {w : World} {K : PySem.W.Frag} {h : Heap} {mg : Str → Option Value} {fa CLineReader CPlan CTextReader CInvalidFront CInvalidBack CInvalidRule CInvalidText CTicketError f1 f2 f3 f4 f5 f6 f7 f8 f9 f10 f11 f12 f13 f14 f15 f16 f17 f18 f19 f20 f21 f22 f23 f24 f25 : Addr} (X : K.In h) (G : h.Ns mainGlobals mg) (hfa : mg "law" = some (.ref fa))
    {od1 an1 od2 an2 od3 an3 od4 an4 od5 an5 od6 an6 od7 an7 od8 an8 od9 an9 od10 an10 od11 an11 od12 an12 od13 an13 od14 an14 od15 an15 od16 an16 od17 an17 od18 an18 od19 an19 od20 an20 od21 an21 od22 an22 od23 an23 od24 an24 od25 an25 : Option Addr} {sl1 sl2 sl3 sl4 sl5 sl6 sl7 sl8 sl9 sl10 sl11 sl12 sl13 sl14 sl15 sl16 sl17 sl18 sl19 sl20 sl21 sl22 sl23 sl24 sl25 : Array (Option Value)} {oc1 kV1 dc1 pm1 cd1 ct1 oc2 kV2 dc2 pm2 cd2 ct2 oc3 kV3 dc3 pm3 cd3 ct3 oc4 kV4 dc4 pm4 cd4 ct4 oc5 kV5 dc5 pm5 cd5 ct5 oc6 kV6 dc6 pm6 cd6 ct6 oc7 kV7 dc7 pm7 cd7 ct7 oc8 kV8 dc8 pm8 cd8 ct8 oc9 kV9 dc9 pm9 cd9 ct9 oc10 kV10 dc10 pm10 cd10 ct10 oc11 kV11 dc11 pm11 cd11 ct11 oc12 kV12 dc12 pm12 cd12 ct12 oc13 kV13 dc13 pm13 cd13 ct13 oc14 kV14 dc14 pm14 cd14 ct14 oc15 kV15 dc15 pm15 cd15 ct15 oc16 kV16 dc16 pm16 cd16 ct16 oc17 kV17 dc17 pm17 cd17 ct17 oc18 kV18 dc18 pm18 cd18 ct18 oc19 kV19 dc19 pm19 cd19 ct19 oc20 kV20 dc20 pm20 cd20 ct20 oc21 kV21 dc21 pm21 cd21 ct21 oc22 kV22 dc22 pm22 cd22 ct22 oc23 kV23 dc23 pm23 cd23 ct23 oc24 kV24 dc24 pm24 cd24 ct24 oc25 kV25 dc25 pm25 cd25 ct25 : Value}
    {zRULES : Addr} {zdRULES : Option Addr} {znRULES : Nat} {zsRULES : Array (Option Value)} {tRULES0 : Tok} {tRULES1 : Tok} {tRULES2 : Tok} {tLAST_FRONT : Tok} {tMOST_FRONT : Tok} {tLAST_BACK : Tok} {tMOST_BACK : Tok}
    {nmInvalidFront qqInvalidFront : Str} {NInvalidFront : Addr} {bsInvalidFront : List Value} {snInvalidFront : List Str} {subInvalidFront : List Value} {abInvalidFront : Bool} {colInvalidFront : Option Bool} {ddInvalidFront : Option Addr} {m0InvalidFront m1InvalidFront m2InvalidFront m3InvalidFront m5InvalidFront : Option Value}
    {nmInvalidBack qqInvalidBack : Str} {NInvalidBack : Addr} {bsInvalidBack : List Value} {snInvalidBack : List Str} {subInvalidBack : List Value} {abInvalidBack : Bool} {colInvalidBack : Option Bool} {ddInvalidBack : Option Addr} {m0InvalidBack m1InvalidBack m2InvalidBack m3InvalidBack m5InvalidBack : Option Value}
    {nmInvalidRule qqInvalidRule : Str} {NInvalidRule : Addr} {bsInvalidRule : List Value} {snInvalidRule : List Str} {subInvalidRule : List Value} {abInvalidRule : Bool} {colInvalidRule : Option Bool} {ddInvalidRule : Option Addr} {m0InvalidRule m1InvalidRule m2InvalidRule m3InvalidRule m5InvalidRule : Option Value}
    {nmInvalidText qqInvalidText : Str} {NInvalidText : Addr} {bsInvalidText : List Value} {snInvalidText : List Str} {subInvalidText : List Value} {abInvalidText : Bool} {colInvalidText : Option Bool} {ddInvalidText : Option Addr} {m0InvalidText m1InvalidText m2InvalidText m3InvalidText m5InvalidText : Option Value}
    (aCLineReader : PySem.W.nsIn K mainGlobals "LineReader" = some (some (.ref CLineReader)))
    (aCPlan : PySem.W.nsIn K mainGlobals "Plan" = some (some (.ref CPlan)))
    (aCTextReader : PySem.W.nsIn K mainGlobals "TextReader" = some (some (.ref CTextReader)))
    (aCInvalidFront : PySem.W.nsIn K mainGlobals "InvalidFront" = some (some (.ref CInvalidFront)))
    (aCInvalidBack : PySem.W.nsIn K mainGlobals "InvalidBack" = some (some (.ref CInvalidBack)))
    (aCInvalidRule : PySem.W.nsIn K mainGlobals "InvalidRule" = some (some (.ref CInvalidRule)))
    (aCInvalidText : PySem.W.nsIn K mainGlobals "InvalidText" = some (some (.ref CInvalidText)))
    (aCTicketError : PySem.W.nsIn K mainGlobals "TicketError" = some (some (.ref CTicketError)))
    (a1 : PySem.W.findIn K (.ref CInvalidFront) "__init__" = some (some (.ref f1)))
    (i1 : PySem.W.isFn K (.ref f1) = true)
    (l1 : K.lookup f1 = some ⟨oc1, od1, .func (PySem.W.fnOf "__init__" "InvalidFront.__init__" (defArgs s_InvalidFront___init__) (defBody s_InvalidFront___init__) (defScope s_InvalidFront___init__) .none kV1 dc1 pm1 an1 cd1 ct1), sl1⟩)
    (c1 : PySem.W.codeIn K cd1 "InvalidFront.__init__" = true)
    (k1 : PySem.W.keepIn K (.ref f1) = true)
    (t1 : PySem.W.typeIn K (.ref f1) = some (.type "function"))
    (a2 : PySem.W.findIn K (.ref CInvalidBack) "__init__" = some (some (.ref f2)))
    (i2 : PySem.W.isFn K (.ref f2) = true)
    (l2 : K.lookup f2 = some ⟨oc2, od2, .func (PySem.W.fnOf "__init__" "InvalidBack.__init__" (defArgs s_InvalidBack___init__) (defBody s_InvalidBack___init__) (defScope s_InvalidBack___init__) .none kV2 dc2 pm2 an2 cd2 ct2), sl2⟩)
    (c2 : PySem.W.codeIn K cd2 "InvalidBack.__init__" = true)
    (k2 : PySem.W.keepIn K (.ref f2) = true)
    (t2 : PySem.W.typeIn K (.ref f2) = some (.type "function"))
    (a3 : PySem.W.findIn K (.ref CInvalidRule) "__init__" = some (some (.ref f3)))
    (i3 : PySem.W.isFn K (.ref f3) = true)
    (l3 : K.lookup f3 = some ⟨oc3, od3, .func (PySem.W.fnOf "__init__" "InvalidRule.__init__" (defArgs s_InvalidRule___init__) (defBody s_InvalidRule___init__) (defScope s_InvalidRule___init__) .none kV3 dc3 pm3 an3 cd3 ct3), sl3⟩)
    (c3 : PySem.W.codeIn K cd3 "InvalidRule.__init__" = true)
    (k3 : PySem.W.keepIn K (.ref f3) = true)
    (t3 : PySem.W.typeIn K (.ref f3) = some (.type "function"))
    (a4 : PySem.W.findIn K (.ref CInvalidText) "__init__" = some (some (.ref f4)))
    (i4 : PySem.W.isFn K (.ref f4) = true)
    (l4 : K.lookup f4 = some ⟨oc4, od4, .func (PySem.W.fnOf "__init__" "InvalidText.__init__" (defArgs s_InvalidText___init__) (defBody s_InvalidText___init__) (defScope s_InvalidText___init__) .none kV4 dc4 pm4 an4 cd4 ct4), sl4⟩)
    (c4 : PySem.W.codeIn K cd4 "InvalidText.__init__" = true)
    (k4 : PySem.W.keepIn K (.ref f4) = true)
    (t4 : PySem.W.typeIn K (.ref f4) = some (.type "function"))
    (a5 : PySem.W.nsIn K mainGlobals "is_whole" = some (some (.ref f5)))
    (l5 : K.lookup f5 = some ⟨oc5, od5, .func (PySem.W.fnOf "is_whole" "is_whole" (defArgs s_is_whole) (defBody s_is_whole) (defScope s_is_whole) .none kV5 dc5 pm5 an5 cd5 ct5), sl5⟩)
    (c5 : PySem.W.codeIn K cd5 "is_whole" = true)
    (k5 : PySem.W.keepIn K (.ref f5) = true)
    (a6 : PySem.W.nsIn K mainGlobals "is_within" = some (some (.ref f6)))
    (l6 : K.lookup f6 = some ⟨oc6, od6, .func (PySem.W.fnOf "is_within" "is_within" (defArgs s_is_within) (defBody s_is_within) (defScope s_is_within) .none kV6 dc6 pm6 an6 cd6 ct6), sl6⟩)
    (c6 : PySem.W.codeIn K cd6 "is_within" = true)
    (k6 : PySem.W.keepIn K (.ref f6) = true)
    (a7 : PySem.W.nsIn K mainGlobals "are_places" = some (some (.ref f7)))
    (l7 : K.lookup f7 = some ⟨oc7, od7, .func (PySem.W.fnOf "are_places" "are_places" (defArgs s_are_places) (defBody s_are_places) (defScope s_are_places) .none kV7 dc7 pm7 an7 cd7 ct7), sl7⟩)
    (c7 : PySem.W.codeIn K cd7 "are_places" = true)
    (k7 : PySem.W.keepIn K (.ref f7) = true)
    (a8 : PySem.W.nsIn K mainGlobals "is_rule" = some (some (.ref f8)))
    (l8 : K.lookup f8 = some ⟨oc8, od8, .func (PySem.W.fnOf "is_rule" "is_rule" (defArgs s_is_rule) (defBody s_is_rule) (defScope s_is_rule) .none kV8 dc8 pm8 an8 cd8 ct8), sl8⟩)
    (c8 : PySem.W.codeIn K cd8 "is_rule" = true)
    (k8 : PySem.W.keepIn K (.ref f8) = true)
    (a9 : PySem.W.findIn K (.ref CPlan) "__init__" = some (some (.ref f9)))
    (i9 : PySem.W.isFn K (.ref f9) = true)
    (l9 : K.lookup f9 = some ⟨oc9, od9, .func (PySem.W.fnOf "__init__" "Plan.__init__" (defArgs s_Plan___init__) (defBody s_Plan___init__) (defScope s_Plan___init__) .none kV9 dc9 pm9 an9 cd9 ct9), sl9⟩)
    (c9 : PySem.W.codeIn K cd9 "Plan.__init__" = true)
    (k9 : PySem.W.keepIn K (.ref f9) = true)
    (a10 : PySem.W.findIn K (.ref CPlan) "__eq__" = some (some (.ref f10)))
    (i10 : PySem.W.isFn K (.ref f10) = true)
    (l10 : K.lookup f10 = some ⟨oc10, od10, .func (PySem.W.fnOf "__eq__" "Plan.__eq__" (defArgs s_Plan___eq__) (defBody s_Plan___eq__) (defScope s_Plan___eq__) .none kV10 dc10 pm10 an10 cd10 ct10), sl10⟩)
    (c10 : PySem.W.codeIn K cd10 "Plan.__eq__" = true)
    (k10 : PySem.W.keepIn K (.ref f10) = true)
    (a11 : PySem.W.findIn K (.ref CLineReader) "__init__" = some (some (.ref f11)))
    (i11 : PySem.W.isFn K (.ref f11) = true)
    (l11 : K.lookup f11 = some ⟨oc11, od11, .func (PySem.W.fnOf "__init__" "LineReader.__init__" (defArgs s_LineReader___init__) (defBody s_LineReader___init__) (defScope s_LineReader___init__) .none kV11 dc11 pm11 an11 cd11 ct11), sl11⟩)
    (c11 : PySem.W.codeIn K cd11 "LineReader.__init__" = true)
    (k11 : PySem.W.keepIn K (.ref f11) = true)
    (a12 : PySem.W.findIn K (.ref CLineReader) "refuse" = some (some (.ref f12)))
    (i12 : PySem.W.isFn K (.ref f12) = true)
    (l12 : K.lookup f12 = some ⟨oc12, od12, .func (PySem.W.fnOf "refuse" "LineReader.refuse" (defArgs s_LineReader_refuse) (defBody s_LineReader_refuse) (defScope s_LineReader_refuse) .none kV12 dc12 pm12 an12 cd12 ct12), sl12⟩)
    (c12 : PySem.W.codeIn K cd12 "LineReader.refuse" = true)
    (k12 : PySem.W.keepIn K (.ref f12) = true)
    (a13 : PySem.W.findIn K (.ref CLineReader) "one_of" = some (some (.ref f13)))
    (i13 : PySem.W.isFn K (.ref f13) = true)
    (l13 : K.lookup f13 = some ⟨oc13, od13, .func (PySem.W.fnOf "one_of" "LineReader.one_of" (defArgs s_LineReader_one_of) (defBody s_LineReader_one_of) (defScope s_LineReader_one_of) .none kV13 dc13 pm13 an13 cd13 ct13), sl13⟩)
    (c13 : PySem.W.codeIn K cd13 "LineReader.one_of" = true)
    (k13 : PySem.W.keepIn K (.ref f13) = true)
    (a14 : PySem.W.findIn K (.ref CLineReader) "places" = some (some (.ref f14)))
    (i14 : PySem.W.isFn K (.ref f14) = true)
    (l14 : K.lookup f14 = some ⟨oc14, od14, .func (PySem.W.fnOf "places" "LineReader.places" (defArgs s_LineReader_places) (defBody s_LineReader_places) (defScope s_LineReader_places) .none kV14 dc14 pm14 an14 cd14 ct14), sl14⟩)
    (c14 : PySem.W.codeIn K cd14 "LineReader.places" = true)
    (k14 : PySem.W.keepIn K (.ref f14) = true)
    (a15 : PySem.W.findIn K (.ref CLineReader) "end" = some (some (.ref f15)))
    (i15 : PySem.W.isFn K (.ref f15) = true)
    (l15 : K.lookup f15 = some ⟨oc15, od15, .func (PySem.W.fnOf "end" "LineReader.end" (defArgs s_LineReader_end) (defBody s_LineReader_end) (defScope s_LineReader_end) .none kV15 dc15 pm15 an15 cd15 ct15), sl15⟩)
    (c15 : PySem.W.codeIn K cd15 "LineReader.end" = true)
    (k15 : PySem.W.keepIn K (.ref f15) = true)
    (a16 : PySem.W.findIn K (.ref CTextReader) "__init__" = some (some (.ref f16)))
    (i16 : PySem.W.isFn K (.ref f16) = true)
    (l16 : K.lookup f16 = some ⟨oc16, od16, .func (PySem.W.fnOf "__init__" "TextReader.__init__" (defArgs s_TextReader___init__) (defBody s_TextReader___init__) (defScope s_TextReader___init__) .none kV16 dc16 pm16 an16 cd16 ct16), sl16⟩)
    (c16 : PySem.W.codeIn K cd16 "TextReader.__init__" = true)
    (k16 : PySem.W.keepIn K (.ref f16) = true)
    (a17 : PySem.W.findIn K (.ref CTextReader) "take" = some (some (.ref f17)))
    (i17 : PySem.W.isFn K (.ref f17) = true)
    (l17 : K.lookup f17 = some ⟨oc17, od17, .func (PySem.W.fnOf "take" "TextReader.take" (defArgs s_TextReader_take) (defBody s_TextReader_take) (defScope s_TextReader_take) .none kV17 dc17 pm17 an17 cd17 ct17), sl17⟩)
    (c17 : PySem.W.codeIn K cd17 "TextReader.take" = true)
    (k17 : PySem.W.keepIn K (.ref f17) = true)
    (a18 : PySem.W.nsIn K mainGlobals "read" = some (some (.ref f18)))
    (l18 : K.lookup f18 = some ⟨oc18, od18, .func (PySem.W.fnOf "read" "read" (defArgs s_read) (defBody s_read) (defScope s_read) .none kV18 dc18 pm18 an18 cd18 ct18), sl18⟩)
    (c18 : PySem.W.codeIn K cd18 "read" = true)
    (k18 : PySem.W.keepIn K (.ref f18) = true)
    (a19 : PySem.W.nsIn K mainGlobals "_law_taken" = some (some (.ref f19)))
    (l19 : K.lookup f19 = some ⟨oc19, od19, .func (PySem.W.fnOf "_law_taken" "_law_taken" (defArgs s__law_taken) (defBody s__law_taken) (defScope s__law_taken) .none kV19 dc19 pm19 an19 cd19 ct19), sl19⟩)
    (c19 : PySem.W.codeIn K cd19 "_law_taken" = true)
    (k19 : PySem.W.keepIn K (.ref f19) = true)
    (a20 : PySem.W.nsIn K mainGlobals "_law_some" = some (some (.ref f20)))
    (l20 : K.lookup f20 = some ⟨oc20, od20, .func (PySem.W.fnOf "_law_some" "_law_some" (defArgs s__law_some) (defBody s__law_some) (defScope s__law_some) .none kV20 dc20 pm20 an20 cd20 ct20), sl20⟩)
    (c20 : PySem.W.codeIn K cd20 "_law_some" = true)
    (k20 : PySem.W.keepIn K (.ref f20) = true)
    (a21 : PySem.W.nsIn K mainGlobals "_law_drawn" = some (some (.ref f21)))
    (l21 : K.lookup f21 = some ⟨oc21, od21, .func (PySem.W.fnOf "_law_drawn" "_law_drawn" (defArgs s__law_drawn) (defBody s__law_drawn) (defScope s__law_drawn) .none kV21 dc21 pm21 an21 cd21 ct21), sl21⟩)
    (c21 : PySem.W.codeIn K cd21 "_law_drawn" = true)
    (k21 : PySem.W.keepIn K (.ref f21) = true)
    (a22 : PySem.W.nsIn K mainGlobals "_law_line_wrong" = some (some (.ref f22)))
    (l22 : K.lookup f22 = some ⟨oc22, od22, .func (PySem.W.fnOf "_law_line_wrong" "_law_line_wrong" (defArgs s__law_line_wrong) (defBody s__law_line_wrong) (defScope s__law_line_wrong) .none kV22 dc22 pm22 an22 cd22 ct22), sl22⟩)
    (c22 : PySem.W.codeIn K cd22 "_law_line_wrong" = true)
    (k22 : PySem.W.keepIn K (.ref f22) = true)
    (a23 : PySem.W.nsIn K mainGlobals "_law_wrong" = some (some (.ref f23)))
    (l23 : K.lookup f23 = some ⟨oc23, od23, .func (PySem.W.fnOf "_law_wrong" "_law_wrong" (defArgs s__law_wrong) (defBody s__law_wrong) (defScope s__law_wrong) .none kV23 dc23 pm23 an23 cd23 ct23), sl23⟩)
    (c23 : PySem.W.codeIn K cd23 "_law_wrong" = true)
    (k23 : PySem.W.keepIn K (.ref f23) = true)
    (a24 : PySem.W.nsIn K mainGlobals "_law_refused" = some (some (.ref f24)))
    (l24 : K.lookup f24 = some ⟨oc24, od24, .func (PySem.W.fnOf "_law_refused" "_law_refused" (defArgs s__law_refused) (defBody s__law_refused) (defScope s__law_refused) .none kV24 dc24 pm24 an24 cd24 ct24), sl24⟩)
    (c24 : PySem.W.codeIn K cd24 "_law_refused" = true)
    (k24 : PySem.W.keepIn K (.ref f24) = true)
    (a25 : PySem.W.nsIn K mainGlobals "law" = some (some (.ref f25)))
    (l25 : K.lookup f25 = some ⟨oc25, od25, .func (PySem.W.fnOf "law" "law" (defArgs s_law) (defBody s_law) (defScope s_law) .none kV25 dc25 pm25 an25 cd25 ct25), sl25⟩)
    (c25 : PySem.W.codeIn K cd25 "law" = true)
    (k25 : PySem.W.keepIn K (.ref f25) = true)
    (exInvalidFront : PySem.W.subIn K (.ref CInvalidFront) (.type "BaseException") = some true)
    (tyInvalidFront : PySem.W.typeIn K (.ref CInvalidFront) = some (.type "type"))
    (icInvalidFront : PySem.W.isClsIn K CInvalidFront = true)
    (exInvalidBack : PySem.W.subIn K (.ref CInvalidBack) (.type "BaseException") = some true)
    (tyInvalidBack : PySem.W.typeIn K (.ref CInvalidBack) = some (.type "type"))
    (icInvalidBack : PySem.W.isClsIn K CInvalidBack = true)
    (exInvalidRule : PySem.W.subIn K (.ref CInvalidRule) (.type "BaseException") = some true)
    (tyInvalidRule : PySem.W.typeIn K (.ref CInvalidRule) = some (.type "type"))
    (icInvalidRule : PySem.W.isClsIn K CInvalidRule = true)
    (exInvalidText : PySem.W.subIn K (.ref CInvalidText) (.type "BaseException") = some true)
    (tyInvalidText : PySem.W.typeIn K (.ref CInvalidText) = some (.type "type"))
    (icInvalidText : PySem.W.isClsIn K CInvalidText = true)
    (exTicketError : PySem.W.subIn K (.ref CTicketError) (.type "BaseException") = some true)
    (tyTicketError : PySem.W.typeIn K (.ref CTicketError) = some (.type "type"))
    (icTicketError : PySem.W.isClsIn K CTicketError = true)
    (xcInvalidFront : K.lookup CInvalidFront = some (excClassObj nmInvalidFront qqInvalidFront CInvalidFront NInvalidFront bsInvalidFront [.ref CTicketError, .type "ValueError", .type "Exception", .type "BaseException", .type "object"] true snInvalidFront subInvalidFront abInvalidFront colInvalidFront ddInvalidFront m0InvalidFront m1InvalidFront m2InvalidFront m3InvalidFront m5InvalidFront "ValueError.__new__"))
    (saInvalidFront : PySem.W.findIn K (.ref CInvalidFront) "__setattr__" = some (some (.builtin "object.__setattr__")))
    (kcInvalidFront : PySem.W.keepIn K (.ref CInvalidFront) = true)
    (xcInvalidBack : K.lookup CInvalidBack = some (excClassObj nmInvalidBack qqInvalidBack CInvalidBack NInvalidBack bsInvalidBack [.ref CTicketError, .type "ValueError", .type "Exception", .type "BaseException", .type "object"] true snInvalidBack subInvalidBack abInvalidBack colInvalidBack ddInvalidBack m0InvalidBack m1InvalidBack m2InvalidBack m3InvalidBack m5InvalidBack "ValueError.__new__"))
    (saInvalidBack : PySem.W.findIn K (.ref CInvalidBack) "__setattr__" = some (some (.builtin "object.__setattr__")))
    (kcInvalidBack : PySem.W.keepIn K (.ref CInvalidBack) = true)
    (xcInvalidRule : K.lookup CInvalidRule = some (excClassObj nmInvalidRule qqInvalidRule CInvalidRule NInvalidRule bsInvalidRule [.ref CTicketError, .type "ValueError", .type "Exception", .type "BaseException", .type "object"] true snInvalidRule subInvalidRule abInvalidRule colInvalidRule ddInvalidRule m0InvalidRule m1InvalidRule m2InvalidRule m3InvalidRule m5InvalidRule "ValueError.__new__"))
    (saInvalidRule : PySem.W.findIn K (.ref CInvalidRule) "__setattr__" = some (some (.builtin "object.__setattr__")))
    (kcInvalidRule : PySem.W.keepIn K (.ref CInvalidRule) = true)
    (xcInvalidText : K.lookup CInvalidText = some (excClassObj nmInvalidText qqInvalidText CInvalidText NInvalidText bsInvalidText [.ref CTicketError, .type "ValueError", .type "Exception", .type "BaseException", .type "object"] true snInvalidText subInvalidText abInvalidText colInvalidText ddInvalidText m0InvalidText m1InvalidText m2InvalidText m3InvalidText m5InvalidText "ValueError.__new__"))
    (saInvalidText : PySem.W.findIn K (.ref CInvalidText) "__setattr__" = some (some (.builtin "object.__setattr__")))
    (kcInvalidText : PySem.W.keepIn K (.ref CInvalidText) = true)
    (nInvalidText_line : PySem.W.findIn K (.ref CInvalidText) "line" = some none)
    (nInvalidText_word : PySem.W.findIn K (.ref CInvalidText) "word" = some none)
    (gaInvalidText : PySem.W.findIn K (.ref CInvalidText) "__getattribute__" = some (some (.builtin "BaseException.__getattribute__")))
    (ggInvalidText : PySem.W.findIn K (.ref CInvalidText) "__getattr__" = some none)
    (hdInvalidText : PySem.W.hasDictIn K CInvalidText = true)
    (suInvalidText_InvalidText : PySem.W.subIn K (.ref CInvalidText) (.ref CInvalidText) = some true)
    (suInvalidRule_InvalidText : PySem.W.subIn K (.ref CInvalidRule) (.ref CInvalidText) = some false)
    (suInvalidBack_InvalidText : PySem.W.subIn K (.ref CInvalidBack) (.ref CInvalidText) = some false)
    (suInvalidFront_InvalidText : PySem.W.subIn K (.ref CInvalidFront) (.ref CInvalidText) = some false)
    (rdTE : PySem.W.readsIn K CTicketError (.type "type") = true)
    (gaTE : PySem.W.specialIn K (.ref CTicketError) "__getattribute__" = some (some (.builtin "type.__getattribute__")))
    (inTE : PySem.W.findCls K (.ref CTicketError) (.type "type") "__init__" = some (.val (.builtin "ValueError.__init__")))
    (pgLineReader : PySem.W.plainGet K CLineReader Str.empty = true)
    (hdLineReader : PySem.W.hasDictIn K CLineReader = true)
    (poLineReader : PySem.W.plainOver K CLineReader = true)
    (saLineReader : PySem.W.findIn K (.ref CLineReader) "__setattr__" = some (some (.builtin "object.__setattr__")))
    (mkLineReader : PySem.W.makesIn K CLineReader = true)
    (kcLineReader : PySem.W.keepIn K (.ref CLineReader) = true)
    (nLineReader_line : PySem.W.findIn K (.ref CLineReader) "line" = some none)
    (nLineReader_row : PySem.W.findIn K (.ref CLineReader) "row" = some none)
    (nLineReader_spot : PySem.W.findIn K (.ref CLineReader) "spot" = some none)
    (pgPlan : PySem.W.plainGet K CPlan Str.empty = true)
    (hdPlan : PySem.W.hasDictIn K CPlan = true)
    (poPlan : PySem.W.plainOver K CPlan = true)
    (saPlan : PySem.W.findIn K (.ref CPlan) "__setattr__" = some (some (.builtin "object.__setattr__")))
    (mkPlan : PySem.W.makesIn K CPlan = true)
    (kcPlan : PySem.W.keepIn K (.ref CPlan) = true)
    (nPlan_first : PySem.W.findIn K (.ref CPlan) "first" = some none)
    (nPlan_fore : PySem.W.findIn K (.ref CPlan) "fore" = some none)
    (nPlan_rear : PySem.W.findIn K (.ref CPlan) "rear" = some none)
    (nPlan_way : PySem.W.findIn K (.ref CPlan) "way" = some none)
    (pgTextReader : PySem.W.plainGet K CTextReader Str.empty = true)
    (hdTextReader : PySem.W.hasDictIn K CTextReader = true)
    (poTextReader : PySem.W.plainOver K CTextReader = true)
    (saTextReader : PySem.W.findIn K (.ref CTextReader) "__setattr__" = some (some (.builtin "object.__setattr__")))
    (mkTextReader : PySem.W.makesIn K CTextReader = true)
    (kcTextReader : PySem.W.keepIn K (.ref CTextReader) = true)
    (nTextReader_done : PySem.W.findIn K (.ref CTextReader) "done" = some none)
    (nTextReader_rows : PySem.W.findIn K (.ref CTextReader) "rows" = some none)
    (ica : PySem.W.findIn K (.ref CPlan) "__class__" = some (some (.builtin "object.__class__")))
    (icb : PySem.W.specialIn K (.builtin "object.__class__") "__get__" = some (some (.builtin "getset_descriptor.__get__")))
    (icc : PySem.W.takesIn K (.builtin "object.__class__") = some true)
    (icd : PySem.W.mroIn K CPlan (.type "object") = some true)
    (ice : PySem.W.isClsIn K CPlan = true)
    (icf : PySem.W.typeIn K (.ref CPlan) = some (.type "type"))
    (icg : PySem.W.subIn K (.type "dict") (.ref CPlan) = some false)
    (ich : PySem.W.notFirst K CPlan (.type "dict") = true)
    (bisinstance : PySem.W.nsIn K mainGlobals "isinstance" = some none)
    (bint : PySem.W.nsIn K mainGlobals "int" = some none)
    (bbool : PySem.W.nsIn K mainGlobals "bool" = some none)
    (btuple : PySem.W.nsIn K mainGlobals "tuple" = some none)
    (blen : PySem.W.nsIn K mainGlobals "len" = some none)
    (ball : PySem.W.nsIn K mainGlobals "all" = some none)
    (bzip : PySem.W.nsIn K mainGlobals "zip" = some none)
    (bstr : PySem.W.nsIn K mainGlobals "str" = some none)
    (bsum : PySem.W.nsIn K mainGlobals "sum" = some none)
    (bmax : PySem.W.nsIn K mainGlobals "max" = some none)
    (brange : PySem.W.nsIn K mainGlobals "range" = some none)
    (gRULES : PySem.W.nsIn K mainGlobals "RULES" = some (some (.ref zRULES)))
    (hRULES : K.lookup zRULES = some ⟨.type "tuple", zdRULES, .seq #[.str "any" tRULES0, .str "asks" tRULES1, .str "low" tRULES2] znRULES, zsRULES⟩)
    (gLAST_FRONT : PySem.W.nsIn K mainGlobals "LAST_FRONT" = some (some (.int 5 tLAST_FRONT)))
    (gMOST_FRONT : PySem.W.nsIn K mainGlobals "MOST_FRONT" = some (some (.int 3 tMOST_FRONT)))
    (gLAST_BACK : PySem.W.nsIn K mainGlobals "LAST_BACK" = some (some (.int 4 tLAST_BACK)))
    (gMOST_BACK : PySem.W.nsIn K mainGlobals "MOST_BACK" = some (some (.int 2 tMOST_BACK))) :
    ∃ fd : FuncData, (∀ (s : Shared) (v : Value), BindsTo s fd ⟨[v], []⟩ [("_law_script", v)]) ∧ ∀ base : Heap, K.In base → base.Ns mainGlobals mg → FnOk l.prog w K mg base (L2.CX l.prog w) 9 fa fd ["_law_script"] (spLw K) := by
  have e := hfa.symm.trans (PySem.W.mg_of X G a25)
  cases e
  let A : Ads := ⟨CPlan, CTicketError, CInvalidFront, CInvalidBack, CInvalidRule, 0, 0, 0, 0, 0, CInvalidText, 0, CLineReader, CTextReader⟩
  have cl_CLineReader : Cls K A.CLineReader := ⟨pgLineReader, hdLineReader, poLineReader, saLineReader⟩
  have na_CLineReader_line : NoAttr K A.CLineReader "line" := nLineReader_line
  have na_CLineReader_row : NoAttr K A.CLineReader "row" := nLineReader_row
  have na_CLineReader_spot : NoAttr K A.CLineReader "spot" := nLineReader_spot
  have cl_CPlan : Cls K A.CPlan := ⟨pgPlan, hdPlan, poPlan, saPlan⟩
  have na_CPlan_first : NoAttr K A.CPlan "first" := nPlan_first
  have na_CPlan_fore : NoAttr K A.CPlan "fore" := nPlan_fore
  have na_CPlan_rear : NoAttr K A.CPlan "rear" := nPlan_rear
  have na_CPlan_way : NoAttr K A.CPlan "way" := nPlan_way
  have cl_CTextReader : Cls K A.CTextReader := ⟨pgTextReader, hdTextReader, poTextReader, saTextReader⟩
  have na_CTextReader_done : NoAttr K A.CTextReader "done" := nTextReader_done
  have na_CTextReader_rows : NoAttr K A.CTextReader "rows" := nTextReader_rows
  have ic_Plan : IsC K A.CPlan := isC_mk cl_CPlan ica icb icc icd ice icf icg ich
  have kc_Plan : mg "Plan" = some (.ref A.CPlan) := PySem.W.mg_of X G aCPlan
  have b_isinstance : mg "isinstance" = none := PySem.W.mg_none_of X G bisinstance
  have b_int : mg "int" = none := PySem.W.mg_none_of X G bint
  have b_bool : mg "bool" = none := PySem.W.mg_none_of X G bbool
  have b_tuple : mg "tuple" = none := PySem.W.mg_none_of X G btuple
  have b_len : mg "len" = none := PySem.W.mg_none_of X G blen
  have b_all : mg "all" = none := PySem.W.mg_none_of X G ball
  have b_zip : mg "zip" = none := PySem.W.mg_none_of X G bzip
  have b_str : mg "str" = none := PySem.W.mg_none_of X G bstr
  have b_sum : mg "sum" = none := PySem.W.mg_none_of X G bsum
  have b_max : mg "max" = none := PySem.W.mg_none_of X G bmax
  have b_range : mg "range" = none := PySem.W.mg_none_of X G brange
  have g_RULES : Gc mg K "RULES" dRULES := gc_tup3s (PySem.W.mg_of X G gRULES) hRULES
  have g_LAST_FRONT : Gc mg K "LAST_FRONT" (.int 5) := gc_int (PySem.W.mg_of X G gLAST_FRONT)
  have g_MOST_FRONT : Gc mg K "MOST_FRONT" (.int 3) := gc_int (PySem.W.mg_of X G gMOST_FRONT)
  have g_LAST_BACK : Gc mg K "LAST_BACK" (.int 4) := gc_int (PySem.W.mg_of X G gLAST_BACK)
  have g_MOST_BACK : Gc mg K "MOST_BACK" (.int 2) := gc_int (PySem.W.mg_of X G gMOST_BACK)
  have x_InvalidText_InvalidText : Exm K A.CInvalidText A.CInvalidText false := exm_same (exm_mk exInvalidText icInvalidText tyInvalidText suInvalidText_InvalidText)
  have x_InvalidRule_InvalidText : Exm K A.CInvalidRule A.CInvalidText false := exm_other (exm_mk exInvalidText icInvalidText tyInvalidText suInvalidRule_InvalidText) (exm_mk exInvalidText icInvalidText tyInvalidText suInvalidText_InvalidText)
  have x_InvalidBack_InvalidText : Exm K A.CInvalidBack A.CInvalidText false := exm_other (exm_mk exInvalidText icInvalidText tyInvalidText suInvalidBack_InvalidText) (exm_mk exInvalidText icInvalidText tyInvalidText suInvalidText_InvalidText)
  have x_InvalidFront_InvalidText : Exm K A.CInvalidFront A.CInvalidText false := exm_other (exm_mk exInvalidText icInvalidText tyInvalidText suInvalidFront_InvalidText) (exm_mk exInvalidText icInvalidText tyInvalidText suInvalidText_InvalidText)
  have k_InvalidText : mg "InvalidText" = some (.ref A.CInvalidText) := PySem.W.mg_of X G aCInvalidText
  have xf_InvalidText : XfC K A.CInvalidText := ⟨gaInvalidText, ggInvalidText, exInvalidText, hdInvalidText⟩
  have no_InvalidText_line : PySem.W.findIn K (.ref A.CInvalidText) "line" = some none := nInvalidText_line
  have no_InvalidText_word : PySem.W.findIn K (.ref A.CInvalidText) "word" = some none := nInvalidText_word
  have B_TE : BasC K mg "TicketError" CTicketError := ⟨PySem.W.mg_of X G aCTicketError, ⟨rdTE, gaTE⟩, inTE⟩
  have F1 := fun_mk (st := s_InvalidFront___init__) l1 c1 k1
  have bn1 := F1.binds (ps := ["self"]) fun _ _ _ _ _ _ us hl => match us, hl with | [_], _ => rfl
  have E_InvalidFront : ErrC K A.CInvalidFront f1 := ⟨⟨⟨_, _, _, _, _, _, _, _, _, _, _, _, _, _, _, xcInvalidFront, refs1 _⟩, saInvalidFront, exInvalidFront, tyInvalidFront, kcInvalidFront⟩, a1, t1⟩
  have F2 := fun_mk (st := s_InvalidBack___init__) l2 c2 k2
  have bn2 := F2.binds (ps := ["self"]) fun _ _ _ _ _ _ us hl => match us, hl with | [_], _ => rfl
  have E_InvalidBack : ErrC K A.CInvalidBack f2 := ⟨⟨⟨_, _, _, _, _, _, _, _, _, _, _, _, _, _, _, xcInvalidBack, refs1 _⟩, saInvalidBack, exInvalidBack, tyInvalidBack, kcInvalidBack⟩, a2, t2⟩
  have F3 := fun_mk (st := s_InvalidRule___init__) l3 c3 k3
  have bn3 := F3.binds (ps := ["self"]) fun _ _ _ _ _ _ us hl => match us, hl with | [_], _ => rfl
  have E_InvalidRule : ErrC K A.CInvalidRule f3 := ⟨⟨⟨_, _, _, _, _, _, _, _, _, _, _, _, _, _, _, xcInvalidRule, refs1 _⟩, saInvalidRule, exInvalidRule, tyInvalidRule, kcInvalidRule⟩, a3, t3⟩
  have F4 := fun_mk (st := s_InvalidText___init__) l4 c4 k4
  have bn4 := F4.binds (ps := ["self", "line", "word"]) fun _ _ _ _ _ _ us hl => match us, hl with | [_, _, _], _ => rfl
  have E_InvalidText : ErrC K A.CInvalidText f4 := ⟨⟨⟨_, _, _, _, _, _, _, _, _, _, _, _, _, _, _, xcInvalidText, refs1 _⟩, saInvalidText, exInvalidText, tyInvalidText, kcInvalidText⟩, a4, t4⟩
  have F5 := fun_mk (st := s_is_whole) l5 c5 k5
  have bn5 := F5.binds (ps := ["value"]) fun _ _ _ _ _ _ us hl => match us, hl with | [_], _ => rfl
  have F6 := fun_mk (st := s_is_within) l6 c6 k6
  have bn6 := F6.binds (ps := ["value", "low", "high"]) fun _ _ _ _ _ _ us hl => match us, hl with | [_, _, _], _ => rfl
  have F7 := fun_mk (st := s_are_places) l7 c7 k7
  have bn7 := F7.binds (ps := ["value", "many", "last"]) fun _ _ _ _ _ _ us hl => match us, hl with | [_, _, _], _ => rfl
  have F8 := fun_mk (st := s_is_rule) l8 c8 k8
  have bn8 := F8.binds (ps := ["value"]) fun _ _ _ _ _ _ us hl => match us, hl with | [_], _ => rfl
  have F9 := fun_mk (st := s_Plan___init__) l9 c9 k9
  have bn9 := F9.binds (ps := ["self", "front", "back", "rule"]) fun _ _ _ _ _ _ us hl => match us, hl with | [_, _, _, _], _ => rfl
  have F10 := fun_mk (st := s_Plan___eq__) l10 c10 k10
  have bn10 := F10.binds (ps := ["self", "other"]) fun _ _ _ _ _ _ us hl => match us, hl with | [_, _], _ => rfl
  have F11 := fun_mk (st := s_LineReader___init__) l11 c11 k11
  have bn11 := F11.binds (ps := ["self", "line", "row"]) fun _ _ _ _ _ _ us hl => match us, hl with | [_, _, _], _ => rfl
  have F12 := fun_mk (st := s_LineReader_refuse) l12 c12 k12
  have bn12 := F12.binds (ps := ["self"]) fun _ _ _ _ _ _ us hl => match us, hl with | [_], _ => rfl
  have F13 := fun_mk (st := s_LineReader_one_of) l13 c13 k13
  have bn13 := F13.binds (ps := ["self", "some"]) fun _ _ _ _ _ _ us hl => match us, hl with | [_, _], _ => rfl
  have F14 := fun_mk (st := s_LineReader_places) l14 c14 k14
  have bn14 := F14.binds (ps := ["self", "many", "last"]) fun _ _ _ _ _ _ us hl => match us, hl with | [_, _, _], _ => rfl
  have F15 := fun_mk (st := s_LineReader_end) l15 c15 k15
  have bn15 := F15.binds (ps := ["self"]) fun _ _ _ _ _ _ us hl => match us, hl with | [_], _ => rfl
  have F16 := fun_mk (st := s_TextReader___init__) l16 c16 k16
  have bn16 := F16.binds (ps := ["self", "text"]) fun _ _ _ _ _ _ us hl => match us, hl with | [_, _], _ => rfl
  have F17 := fun_mk (st := s_TextReader_take) l17 c17 k17
  have bn17 := F17.binds (ps := ["self", "head"]) fun _ _ _ _ _ _ us hl => match us, hl with | [_, _], _ => rfl
  have F18 := fun_mk (st := s_read) l18 c18 k18
  have bn18 := F18.binds (ps := ["text"]) fun _ _ _ _ _ _ us hl => match us, hl with | [_], _ => rfl
  have F19 := fun_mk (st := s__law_taken) l19 c19 k19
  have bn19 := F19.binds (ps := ["_law_row", "_law_many"]) fun _ _ _ _ _ _ us hl => match us, hl with | [_, _], _ => rfl
  have F20 := fun_mk (st := s__law_some) l20 c20 k20
  have bn20 := F20.binds (ps := ["_law_row", "_law_places", "_law_most"]) fun _ _ _ _ _ _ us hl => match us, hl with | [_, _, _], _ => rfl
  have F21 := fun_mk (st := s__law_drawn) l21 c21 k21
  have bn21 := F21.binds (ps := ["_law_row"]) fun _ _ _ _ _ _ us hl => match us, hl with | [_], _ => rfl
  have F22 := fun_mk (st := s__law_line_wrong) l22 c22 k22
  have bn22 := F22.binds (ps := ["_law_k", "_law_words"]) fun _ _ _ _ _ _ us hl => match us, hl with | [_, _], _ => rfl
  have F23 := fun_mk (st := s__law_wrong) l23 c23 k23
  have bn23 := F23.binds (ps := ["_law_rows"]) fun _ _ _ _ _ _ us hl => match us, hl with | [_], _ => rfl
  have F24 := fun_mk (st := s__law_refused) l24 c24 k24
  have bn24 := F24.binds (ps := ["_law_text"]) fun _ _ _ _ _ _ us hl => match us, hl with | [_], _ => rfl
  have F25 := fun_mk (st := s_law) l25 c25 k25
  refine ⟨PySem.W.fnOf "law" "law" (defArgs s_law) (defBody s_law) (defScope s_law) .none kV25 dc25 pm25 an25 cd25 ct25, fun s v => .of_eq rfl, fun base _ _ => ?_⟩
  have e_InvalidFront : CalE l.prog w K mg base "InvalidFront" A.CInvalidFront [] 1 (spE0 K) := ⟨⟨f1, _, _, PySem.W.mg_of X G aCInvalidFront, E_InvalidFront, bn1, ok_InvalidFront___init__ B_TE F1⟩, fun _ h => by cases h⟩
  have e_InvalidBack : CalE l.prog w K mg base "InvalidBack" A.CInvalidBack [] 1 (spE0 K) := ⟨⟨f2, _, _, PySem.W.mg_of X G aCInvalidBack, E_InvalidBack, bn2, ok_InvalidBack___init__ B_TE F2⟩, fun _ h => by cases h⟩
  have e_InvalidRule : CalE l.prog w K mg base "InvalidRule" A.CInvalidRule [] 1 (spE0 K) := ⟨⟨f3, _, _, PySem.W.mg_of X G aCInvalidRule, E_InvalidRule, bn3, ok_InvalidRule___init__ B_TE F3⟩, fun _ h => by cases h⟩
  have e_InvalidText : CalE l.prog w K mg base "InvalidText" A.CInvalidText ["line", "word"] 1 (spE2 K "line" "word") := ⟨⟨f4, _, _, PySem.W.mg_of X G aCInvalidText, E_InvalidText, bn4, ok_InvalidText___init__ B_TE F4⟩, fun n h => by rcases List.mem_cons.mp h with rfl | h; exact nInvalidText_line; rcases List.mem_singleton.mp h with rfl; exact nInvalidText_word⟩
  have c_is_whole : Cal l.prog w K mg base "is_whole" 2 (pureF f_is_whole) := ⟨f5, _, _, PySem.W.mg_of X G a5, k5, bn5, ok_is_whole b_bool b_int b_isinstance F5⟩
  have c_is_within : Cal l.prog w K mg base "is_within" 3 (pureF f_is_within) := ⟨f6, _, _, PySem.W.mg_of X G a6, k6, bn6, ok_is_within c_is_whole F6⟩
  have c_are_places : Cal l.prog w K mg base "are_places" 4 (pureF f_are_places) := ⟨f7, _, _, PySem.W.mg_of X G a7, k7, bn7, ok_are_places b_all b_isinstance b_len b_tuple b_zip c_is_within F7⟩
  have c_is_rule : Cal l.prog w K mg base "is_rule" 2 (pureF f_is_rule) := ⟨f8, _, _, PySem.W.mg_of X G a8, k8, bn8, ok_is_rule b_isinstance b_str g_RULES F8⟩
  have m_Plan : CalC l.prog w K mg base "Plan" A.CPlan 5 (f_Plan2 A) := ⟨f9, _, _, PySem.W.mg_of X G aCPlan, ⟨mkPlan, a9, i9, kcPlan⟩, bn9, ok_Plan___init__ b_max b_sum c_are_places c_is_rule cl_CPlan e_InvalidBack e_InvalidFront e_InvalidRule g_LAST_BACK g_LAST_FRONT g_MOST_BACK g_MOST_FRONT na_CPlan_first na_CPlan_fore na_CPlan_rear na_CPlan_way F9⟩
  have q_Plan : EqC l.prog w K mg base A.CPlan 3 (f_planEq A) := ⟨f10, _, _, a10, i10, bn10, ok_Plan___eq__ b_isinstance cl_CPlan ic_Plan kc_Plan na_CPlan_fore na_CPlan_rear na_CPlan_way F10⟩
  have m_LineReader : CalC l.prog w K mg base "LineReader" A.CLineReader 2 (f_LR_init A) := ⟨f11, _, _, PySem.W.mg_of X G aCLineReader, ⟨mkLineReader, a11, i11, kcLineReader⟩, bn11, ok_LineReader___init__ cl_CLineReader na_CLineReader_line na_CLineReader_row na_CLineReader_spot F11⟩
  have me_refuse : MethC l.prog w K mg base A.CLineReader "refuse" 3 (f_LR_refuse A) := ⟨f12, _, _, ⟨a12, i12, k12⟩, bn12, ok_LineReader_refuse cl_CLineReader e_InvalidText na_CLineReader_line na_CLineReader_spot F12⟩
  have me_one_of : MethC l.prog w K mg base A.CLineReader "one_of" 4 (f_LR_one_of A) := ⟨f13, _, _, ⟨a13, i13, k13⟩, bn13, ok_LineReader_one_of b_len cl_CLineReader me_refuse na_CLineReader_row na_CLineReader_spot F13⟩
  have me_places : MethC l.prog w K mg base A.CLineReader "places" 5 (f_LR_places A) := ⟨f14, _, _, ⟨a14, i14, k14⟩, bn14, ok_LineReader_places b_int b_len b_range b_str b_sum cl_CLineReader me_one_of na_CLineReader_row na_CLineReader_spot F14⟩
  have me_end : MethC l.prog w K mg base A.CLineReader "end" 4 (f_LR_end A) := ⟨f15, _, _, ⟨a15, i15, k15⟩, bn15, ok_LineReader_end b_len cl_CLineReader me_refuse na_CLineReader_row na_CLineReader_spot F15⟩
  have m_TextReader : CalC l.prog w K mg base "TextReader" A.CTextReader 2 (f_TR_init A) := ⟨f16, _, _, PySem.W.mg_of X G aCTextReader, ⟨mkTextReader, a16, i16, kcTextReader⟩, bn16, ok_TextReader___init__ cl_CTextReader na_CTextReader_done na_CTextReader_rows F16⟩
  have me_take : MethC l.prog w K mg base A.CTextReader "take" 5 (f_TR_take A) := ⟨f17, _, _, ⟨a17, i17, k17⟩, bn17, ok_TextReader_take b_len cl_CLineReader cl_CTextReader e_InvalidText m_LineReader me_one_of na_CTextReader_done na_CTextReader_rows F17⟩
  have c_read : Cal l.prog w K mg base "read" 7 (pureF (f_read A)) := ⟨f18, _, _, PySem.W.mg_of X G a18, k18, bn18, ok_read b_len cl_CLineReader cl_CTextReader e_InvalidText g_LAST_BACK g_LAST_FRONT g_MOST_BACK g_MOST_FRONT g_RULES m_Plan m_TextReader me_end me_one_of me_places me_take na_CTextReader_done na_CTextReader_rows F18⟩
  have c__law_taken : Cal l.prog w K mg base "_law_taken" 2 f__law_taken := ⟨f19, _, _, PySem.W.mg_of X G a19, k19, bn19, ok__law_taken b_int b_len F19⟩
  have c__law_some : Cal l.prog w K mg base "_law_some" 3 f__law_some := ⟨f20, _, _, PySem.W.mg_of X G a20, k20, bn20, ok__law_some b_len b_tuple c__law_taken F20⟩
  have c__law_drawn : Cal l.prog w K mg base "_law_drawn" 4 f__law_drawn := ⟨f21, _, _, PySem.W.mg_of X G a21, k21, bn21, ok__law_drawn c__law_some c__law_taken F21⟩
  have c__law_line_wrong : Cal l.prog w K mg base "_law_line_wrong" 2 (pureF f__law_line_wrong) := ⟨f22, _, _, PySem.W.mg_of X G a22, k22, bn22, ok__law_line_wrong b_int b_len b_range b_str F22⟩
  have c__law_wrong : Cal l.prog w K mg base "_law_wrong" 3 (pureF f__law_wrong) := ⟨f23, _, _, PySem.W.mg_of X G a23, k23, bn23, ok__law_wrong b_len b_range c__law_line_wrong F23⟩
  have c__law_refused : Cal l.prog w K mg base "_law_refused" 8 (pureF (f__law_refused A)) := ⟨f24, _, _, PySem.W.mg_of X G a24, k24, bn24, ok__law_refused c_read k_InvalidText no_InvalidText_line no_InvalidText_word x_InvalidBack_InvalidText x_InvalidFront_InvalidText x_InvalidRule_InvalidText x_InvalidText_InvalidText xf_InvalidText F24⟩
  exact fn_law (ok_law b_int b_len b_range b_str c__law_drawn c__law_refused c__law_taken c__law_wrong c_read ic_Plan m_Plan q_Plan F25)
theorem walk {l : PySem.W.OpenLaw} {q : Program} {loose : List Str} {XP : (Str → Option Value) → Heap → Prop} {YP : World → Heap → Prop} {d : DefRec} {K : Params → PySem.W.Frag} (hn : l.most = some 63) (hdf : d.params.defaults = [])
    (hY : ∀ (w : World) (h : Heap), YP w h → (K w.params).In h)
    (F : ∀ (w : World) (mg : Str → Option Value) (fa : Addr) (h : Heap), (K w.params).In h → h.Ns mainGlobals mg → mg d.name = some (.ref fa) →
      ∃ fd : FuncData, (∀ (s : Shared) (u : Value), BindsTo s fd ⟨[u], []⟩ [("_law_script", u)]) ∧ ∀ base : Heap, (K w.params).In base → base.Ns mainGlobals mg → FnOk l.prog w (K w.params) mg base (L2.CX l.prog w) 9 fa fd ["_law_script"] (spLw (K w.params))) :
    PySem.W.WalkO q loose XP YP l.row.toRowW d [] (fun f vs => PySem.call f vs) :=
  L2.walk_of (n := 63) (k := 9) (x := "_law_script") (CX := fun w => L2.CX l.prog w) (sp := fun w => spLw (K w.params)) hn (by rw [sizeLine_eq]; decide) hdf ⟨rfl, by decide, by decide⟩ hY F (fun _ _ a ns hl _ hS => ⟨a, ns, rfl, hS, hl, fun _ => rfl⟩) fun _ _ _ _ _ ⟨_, _, _, _, _, _, _, _, _, _, _, _, z⟩ => z
end Lt
open PySem PySem.W PyProof.Rows
set_option maxRecDepth 100000 in
set_option maxHeartbeats 0 in
theorem PySem.Challenge.cw_losttickets_k18_texts_refused_holds : PySem.Challenge.rw_losttickets_k18_texts_refused.Holds := by
  w_on; o_law; k_head; (case hw => w_witness2)
  k_fill
  refine Lt.walk (l := PySem.Challenge.rw_losttickets_k18_texts_refused) rfl rfl (fun w h Y => PySem.W.kIn_of Y) ?F
  case F =>
    intro w mg fa h KX G hmg
    refine' Lt.all_mk KX G hmg ?aCLineReader ?aCPlan ?aCTextReader ?aCInvalidFront ?aCInvalidBack ?aCInvalidRule ?aCInvalidText ?aCTicketError ?a1 ?i1 ?l1 ?c1 ?k1 ?t1 ?a2 ?i2 ?l2 ?c2 ?k2 ?t2 ?a3 ?i3 ?l3 ?c3 ?k3 ?t3 ?a4 ?i4 ?l4 ?c4 ?k4 ?t4 ?a5 ?l5 ?c5 ?k5 ?a6 ?l6 ?c6 ?k6 ?a7 ?l7 ?c7 ?k7 ?a8 ?l8 ?c8 ?k8 ?a9 ?i9 ?l9 ?c9 ?k9 ?a10 ?i10 ?l10 ?c10 ?k10 ?a11 ?i11 ?l11 ?c11 ?k11 ?a12 ?i12 ?l12 ?c12 ?k12 ?a13 ?i13 ?l13 ?c13 ?k13 ?a14 ?i14 ?l14 ?c14 ?k14 ?a15 ?i15 ?l15 ?c15 ?k15 ?a16 ?i16 ?l16 ?c16 ?k16 ?a17 ?i17 ?l17 ?c17 ?k17 ?a18 ?l18 ?c18 ?k18 ?a19 ?l19 ?c19 ?k19 ?a20 ?l20 ?c20 ?k20 ?a21 ?l21 ?c21 ?k21 ?a22 ?l22 ?c22 ?k22 ?a23 ?l23 ?c23 ?k23 ?a24 ?l24 ?c24 ?k24 ?a25 ?l25 ?c25 ?k25 ?exInvalidFront ?tyInvalidFront ?icInvalidFront ?exInvalidBack ?tyInvalidBack ?icInvalidBack ?exInvalidRule ?tyInvalidRule ?icInvalidRule ?exInvalidText ?tyInvalidText ?icInvalidText ?exTicketError ?tyTicketError ?icTicketError ?xcInvalidFront ?saInvalidFront ?kcInvalidFront ?xcInvalidBack ?saInvalidBack ?kcInvalidBack ?xcInvalidRule ?saInvalidRule ?kcInvalidRule ?xcInvalidText ?saInvalidText ?kcInvalidText ?nInvalidText_line ?nInvalidText_word ?gaInvalidText ?ggInvalidText ?hdInvalidText ?suInvalidText_InvalidText ?suInvalidRule_InvalidText ?suInvalidBack_InvalidText ?suInvalidFront_InvalidText ?rdTE ?gaTE ?inTE ?pgLineReader ?hdLineReader ?poLineReader ?saLineReader ?mkLineReader ?kcLineReader ?nLineReader_line ?nLineReader_row ?nLineReader_spot ?pgPlan ?hdPlan ?poPlan ?saPlan ?mkPlan ?kcPlan ?nPlan_first ?nPlan_fore ?nPlan_rear ?nPlan_way ?pgTextReader ?hdTextReader ?poTextReader ?saTextReader ?mkTextReader ?kcTextReader ?nTextReader_done ?nTextReader_rows ?ica ?icb ?icc ?icd ?ice ?icf ?icg ?ich ?bisinstance ?bint ?bbool ?btuple ?blen ?ball ?bzip ?bstr ?bsum ?bmax ?brange ?gRULES ?hRULES ?gLAST_FRONT ?gMOST_FRONT ?gLAST_BACK ?gMOST_BACK
    (case aCLineReader => k_is)
    (case aCPlan => k_is)
    (case aCTextReader => k_is)
    (case aCInvalidFront => k_is)
    (case aCInvalidBack => k_is)
    (case aCInvalidRule => k_is)
    (case aCInvalidText => k_is)
    (case aCTicketError => k_is)
    (case a1 => k_is)
    (case i1 => k_is)
    (case l1 => k_is)
    (case c1 => k_is)
    (case k1 => k_is)
    (case t1 => k_is)
    (case a2 => k_is)
    (case i2 => k_is)
    (case l2 => k_is)
    (case c2 => k_is)
    (case k2 => k_is)
    (case t2 => k_is)
    (case a3 => k_is)
    (case i3 => k_is)
    (case l3 => k_is)
    (case c3 => k_is)
    (case k3 => k_is)
    (case t3 => k_is)
    (case a4 => k_is)
    (case i4 => k_is)
    (case l4 => k_is)
    (case c4 => k_is)
    (case k4 => k_is)
    (case t4 => k_is)
    (case a5 => k_is)
    (case l5 => k_is)
    (case c5 => k_is)
    (case k5 => k_is)
    (case a6 => k_is)
    (case l6 => k_is)
    (case c6 => k_is)
    (case k6 => k_is)
    (case a7 => k_is)
    (case l7 => k_is)
    (case c7 => k_is)
    (case k7 => k_is)
    (case a8 => k_is)
    (case l8 => k_is)
    (case c8 => k_is)
    (case k8 => k_is)
    (case a9 => k_is)
    (case i9 => k_is)
    (case l9 => k_is)
    (case c9 => k_is)
    (case k9 => k_is)
    (case a10 => k_is)
    (case i10 => k_is)
    (case l10 => k_is)
    (case c10 => k_is)
    (case k10 => k_is)
    (case a11 => k_is)
    (case i11 => k_is)
    (case l11 => k_is)
    (case c11 => k_is)
    (case k11 => k_is)
    (case a12 => k_is)
    (case i12 => k_is)
    (case l12 => k_is)
    (case c12 => k_is)
    (case k12 => k_is)
    (case a13 => k_is)
    (case i13 => k_is)
    (case l13 => k_is)
    (case c13 => k_is)
    (case k13 => k_is)
    (case a14 => k_is)
    (case i14 => k_is)
    (case l14 => k_is)
    (case c14 => k_is)
    (case k14 => k_is)
    (case a15 => k_is)
    (case i15 => k_is)
    (case l15 => k_is)
    (case c15 => k_is)
    (case k15 => k_is)
    (case a16 => k_is)
    (case i16 => k_is)
    (case l16 => k_is)
    (case c16 => k_is)
    (case k16 => k_is)
    (case a17 => k_is)
    (case i17 => k_is)
    (case l17 => k_is)
    (case c17 => k_is)
    (case k17 => k_is)
    (case a18 => k_is)
    (case l18 => k_is)
    (case c18 => k_is)
    (case k18 => k_is)
    (case a19 => k_is)
    (case l19 => k_is)
    (case c19 => k_is)
    (case k19 => k_is)
    (case a20 => k_is)
    (case l20 => k_is)
    (case c20 => k_is)
    (case k20 => k_is)
    (case a21 => k_is)
    (case l21 => k_is)
    (case c21 => k_is)
    (case k21 => k_is)
    (case a22 => k_is)
    (case l22 => k_is)
    (case c22 => k_is)
    (case k22 => k_is)
    (case a23 => k_is)
    (case l23 => k_is)
    (case c23 => k_is)
    (case k23 => k_is)
    (case a24 => k_is)
    (case l24 => k_is)
    (case c24 => k_is)
    (case k24 => k_is)
    (case a25 => k_is)
    (case l25 => k_is)
    (case c25 => k_is)
    (case k25 => k_is)
    (case exInvalidFront => k_is)
    (case tyInvalidFront => k_is)
    (case icInvalidFront => k_is)
    (case exInvalidBack => k_is)
    (case tyInvalidBack => k_is)
    (case icInvalidBack => k_is)
    (case exInvalidRule => k_is)
    (case tyInvalidRule => k_is)
    (case icInvalidRule => k_is)
    (case exInvalidText => k_is)
    (case tyInvalidText => k_is)
    (case icInvalidText => k_is)
    (case exTicketError => k_is)
    (case tyTicketError => k_is)
    (case icTicketError => k_is)
    (case xcInvalidFront => k_is)
    (case saInvalidFront => k_is)
    (case kcInvalidFront => k_is)
    (case xcInvalidBack => k_is)
    (case saInvalidBack => k_is)
    (case kcInvalidBack => k_is)
    (case xcInvalidRule => k_is)
    (case saInvalidRule => k_is)
    (case kcInvalidRule => k_is)
    (case xcInvalidText => k_is)
    (case saInvalidText => k_is)
    (case kcInvalidText => k_is)
    (case nInvalidText_line => k_is)
    (case nInvalidText_word => k_is)
    (case gaInvalidText => k_is)
    (case ggInvalidText => k_is)
    (case hdInvalidText => k_is)
    (case suInvalidText_InvalidText => k_is)
    (case suInvalidRule_InvalidText => k_is)
    (case suInvalidBack_InvalidText => k_is)
    (case suInvalidFront_InvalidText => k_is)
    (case rdTE => k_is)
    (case gaTE => k_is)
    (case inTE => k_is)
    (case pgLineReader => k_is)
    (case hdLineReader => k_is)
    (case poLineReader => k_is)
    (case saLineReader => k_is)
    (case mkLineReader => k_is)
    (case kcLineReader => k_is)
    (case nLineReader_line => k_is)
    (case nLineReader_row => k_is)
    (case nLineReader_spot => k_is)
    (case pgPlan => k_is)
    (case hdPlan => k_is)
    (case poPlan => k_is)
    (case saPlan => k_is)
    (case mkPlan => k_is)
    (case kcPlan => k_is)
    (case nPlan_first => k_is)
    (case nPlan_fore => k_is)
    (case nPlan_rear => k_is)
    (case nPlan_way => k_is)
    (case pgTextReader => k_is)
    (case hdTextReader => k_is)
    (case poTextReader => k_is)
    (case saTextReader => k_is)
    (case mkTextReader => k_is)
    (case kcTextReader => k_is)
    (case nTextReader_done => k_is)
    (case nTextReader_rows => k_is)
    (case ica => k_is)
    (case icb => k_is)
    (case icc => k_is)
    (case icd => k_is)
    (case ice => k_is)
    (case icf => k_is)
    (case icg => k_is)
    (case ich => k_is)
    (case bisinstance => k_is)
    (case bint => k_is)
    (case bbool => k_is)
    (case btuple => k_is)
    (case blen => k_is)
    (case ball => k_is)
    (case bzip => k_is)
    (case bstr => k_is)
    (case bsum => k_is)
    (case bmax => k_is)
    (case brange => k_is)
    (case gRULES => k_is)
    (case hRULES => k_is)
    (case gLAST_FRONT => k_is)
    (case gMOST_FRONT => k_is)
    (case gLAST_BACK => k_is)
    (case gMOST_BACK => k_is)
