import PyProof.Rows.All
import Wide.All
import OpenK.AllK
import Wide.FinOn
import HandS.ForMost
import HandS.ForExc
import HandS.Wide
import HandS.Style
import HandS.Flow
import HandS.Deep
import HandS.TupLe
import HandS.TupAny
import HandS.IsInst
import HandS.Star
import HandS.RaiseMore
import HandS.WordsExc
import KE.KExcSuper
import HandS.ExcField
import HandS.ExcIs
import KE.KExcIs
import HandS.HeadHook2
import HandS.Head0
import HandS.Head1
import HandS.Head2
import HandS.HeadEnd
import PySem.Challenge.RW_liftedladders_k01_fractions
set_option Elab.async false
set_option linter.all false
/-! ## LadCore -/
section
set_option maxRecDepth 100000
set_option maxHeartbeats 1000000
/-! Lad: an evaluator of Python over plain data, and its rules over the hand layer. -/
namespace Lad
open PySem L2
/-! ### data -/
inductive Val where
  | non | bl (b : Bool) | int (i : Int) | str (s : Str) | tup (xs : List Val) | ref (i : Nat) | exn (c : Nat) (d : Val)
inductive Ob where
  | lst (xs : List Val) | fro (xs : List Val) | dcK (kvs : List (Val × Val)) | dcT (kvs : List (Val × Val)) | ins (c : Nat) (fs : List (Nat × Val))
abbrev Hea := List Ob
abbrev En := List (Option Val)
inductive Res (α : Type) where
  | ok (a : α) (h : Hea) | exc (c : Nat) (d : Val) (h : Hea) | stuck
def Res.bind {α β : Type} (r : Res α) (k : α → Hea → Res β) : Res β := match r with
  | .ok a h => k a h
  | .exc c d h => .exc c d h
  | .stuck => .stuck
/-- the end of a statement -/
inductive SRes where
  | nx (e : En) (h : Hea) | rt (v : Val) (h : Hea) | bk (e : En) (h : Hea) | ct (e : En) (h : Hea) | exc (c : Nat) (d : Val) (e : En) (h : Hea) | stuck
/-- what the program's top has made: the written part, the classes' addresses, the names of attributes, the field of an exception class -/
structure Sy where
  K : PySem.W.Frag
  ca : Nat → Addr
  nm : Nat → Str
  fld : Nat → Str
  /-- the error that is handled: where it is, its class, its dict -/
  ex : Option (Addr × Nat × Addr)
/-! ### what data stand for -/
mutual
inductive Rep (S : Sy) (ρ : List Addr) (H : Hp) : Val → V → Prop where
  | non : Rep S ρ H .non .non
  | bl (b : Bool) : Rep S ρ H (.bl b) (.bl b)
  | int (i : Int) : Rep S ρ H (.int i) (.int i)
  | str (s : Str) : Rep S ρ H (.str s) (.str s)
  | tup {a : Addr} {ds : List Val} {vs : List V} : SqT S.K H a vs → Reps S ρ H ds vs → Rep S ρ H (.tup ds) (.ref a)
  | ref {i : Nat} {a : Addr} : ρ[i]? = some a → Rep S ρ H (.ref i) (.ref a)
  | exn {c : Nat} {a dx : Addr} {d : Val} {v : V} : S.ex = some (a, c, dx) → H dx = some (.xd [(S.fld c, v)]) → Rep S ρ H d v → Rep S ρ H (.exn c d) (.ref a)
inductive Reps (S : Sy) (ρ : List Addr) (H : Hp) : List Val → List V → Prop where
  | nil : Reps S ρ H [] []
  | cons {d : Val} {v : V} {ds : List Val} {vs : List V} : Rep S ρ H d v → Reps S ρ H ds vs → Reps S ρ H (d :: ds) (v :: vs)
end
/-- tuples stay -/
def Kp (S : Sy) (H H' : Hp) : Prop := (∀ a xs, SqT S.K H a xs → SqT S.K H' a xs) ∧ ∀ a fs, H a = some (.xd fs) → H' a = some (.xd fs)
theorem Kp.rfl {S : Sy} {H : Hp} : Kp S H H := ⟨fun _ _ h => h, fun _ _ h => h⟩
theorem Kp.trans {S : Sy} {H H1 H2 : Hp} (a : Kp S H H1) (b : Kp S H1 H2) : Kp S H H2 := ⟨fun x xs h => b.1 x xs (a.1 x xs h), fun x xs h => b.2 x xs (a.2 x xs h)⟩
/-- ρ' goes on from ρ -/
def Sub (ρ ρ' : List Addr) : Prop := ∀ (i : Nat) (a : Addr), ρ[i]? = some a → ρ'[i]? = some a
theorem Sub.rfl {ρ : List Addr} : Sub ρ ρ := fun _ _ h => h
theorem Sub.trans {ρ ρ1 ρ2 : List Addr} (a : Sub ρ ρ1) (b : Sub ρ1 ρ2) : Sub ρ ρ2 := fun i x h => b i x (a i x h)
theorem Sub.app {ρ l : List Addr} : Sub ρ (ρ ++ l) := fun i a h => by
  have hi := (List.getElem?_eq_some_iff.mp h).1
  rw [List.getElem?_append_left hi]; exact h
mutual
theorem Rep.mono {S : Sy} {ρ ρ' : List Addr} {H H' : Hp} (s : Sub ρ ρ') (k : Kp S H H') : ∀ {d : Val} {v : V}, Rep S ρ H d v → Rep S ρ' H' d v
  | _, _, .non => .non
  | _, _, .bl b => .bl b
  | _, _, .int i => .int i
  | _, _, .str z => .str z
  | _, _, .tup h r => .tup (k.1 _ _ h) (Reps.mono s k r)
  | _, _, .ref h => .ref (s _ _ h)
  | _, _, .exn h1 h2 r => .exn h1 (k.2 _ _ h2) (Rep.mono s k r)
theorem Reps.mono {S : Sy} {ρ ρ' : List Addr} {H H' : Hp} (s : Sub ρ ρ') (k : Kp S H H') : ∀ {ds : List Val} {vs : List V}, Reps S ρ H ds vs → Reps S ρ' H' ds vs
  | _, _, .nil => .nil
  | _, _, .cons r t => .cons (Rep.mono s k r) (Reps.mono s k t)
end
theorem Reps.length {S : Sy} {ρ : List Addr} {H : Hp} : ∀ {ds : List Val} {vs : List V}, Reps S ρ H ds vs → ds.length = vs.length
  | _, _, .nil => rfl
  | _, _, .cons _ t => congrArg (· + 1) (Reps.length t)
theorem Reps.get {S : Sy} {ρ : List Addr} {H : Hp} : ∀ {ds : List Val} {vs : List V} {i : Nat} {d : Val}, Reps S ρ H ds vs → ds[i]? = some d → ∃ v, vs[i]? = some v ∧ Rep S ρ H d v
  | _, _, 0, _, .cons r _, e => by
    have e := Option.some.inj e
    subst e
    exact ⟨_, rfl, r⟩
  | _, _, i + 1, _, .cons _ t, e => Reps.get (i := i) t e
  | _, _, i, _, .nil, e => by simp at e
theorem Reps.get' {S : Sy} {ρ : List Addr} {H : Hp} : ∀ {ds : List Val} {vs : List V} {i : Nat} {v : V}, Reps S ρ H ds vs → vs[i]? = some v → ∃ d, ds[i]? = some d ∧ Rep S ρ H d v
  | _, _, 0, _, .cons r _, e => by
    have e := Option.some.inj e
    subst e
    exact ⟨_, rfl, r⟩
  | _, _, i + 1, _, .cons _ t, e => Reps.get' (i := i) t e
  | _, _, i, _, .nil, e => by simp at e
theorem Reps.app {S : Sy} {ρ : List Addr} {H : Hp} : ∀ {ds es : List Val} {vs us : List V}, Reps S ρ H ds vs → Reps S ρ H es us → Reps S ρ H (ds ++ es) (vs ++ us)
  | _, _, _, _, .nil, t => t
  | _, _, _, _, .cons r q, t => .cons r (Reps.app q t)
theorem Reps.one {S : Sy} {ρ : List Addr} {H : Hp} {d : Val} {v : V} (r : Rep S ρ H d v) : Reps S ρ H [d] [v] := .cons r .nil
theorem Reps.take {S : Sy} {ρ : List Addr} {H : Hp} : ∀ {ds : List Val} {vs : List V} (n : Nat), Reps S ρ H ds vs → Reps S ρ H (ds.take n) (vs.take n)
  | _, _, 0, _ => .nil
  | _, _, _ + 1, .nil => .nil
  | _, _, n + 1, .cons r t => .cons r (Reps.take n t)
theorem Reps.drop {S : Sy} {ρ : List Addr} {H : Hp} : ∀ {ds : List Val} {vs : List V} (n : Nat), Reps S ρ H ds vs → Reps S ρ H (ds.drop n) (vs.drop n)
  | _, _, 0, r => r
  | _, _, _ + 1, .nil => .nil
  | _, _, n + 1, .cons _ t => Reps.drop n t
theorem Reps.set {S : Sy} {ρ : List Addr} {H : Hp} {d : Val} {v : V} (r : Rep S ρ H d v) : ∀ {ds : List Val} {vs : List V} (n : Nat), Reps S ρ H ds vs → Reps S ρ H (ds.set n d) (vs.set n v)
  | _, _, _, .nil => .nil
  | _, _, 0, .cons _ t => .cons r t
  | _, _, n + 1, .cons q t => .cons q (Reps.set r n t)
theorem Reps.ints {S : Sy} {ρ : List Addr} {H : Hp} : ∀ {ns : List Int} {vs : List V}, Reps S ρ H (ns.map Val.int) vs → vs = ns.map V.int
  | [], _, .nil => rfl
  | n :: ns, _, .cons r t => by
    cases r
    rw [Reps.ints t]
    rfl
/-! ### objects -/
def keyVal : Key → Val
  | .inl i => .int i
  | .inr s => .str s
inductive KvR (S : Sy) (ρ : List Addr) (H : Hp) {κ : Type} (kd : κ → Val) : List (Val × Val) → List (κ × V) → Prop where
  | nil : KvR S ρ H kd [] []
  | cons {k : κ} {d : Val} {v : V} {ds : List (Val × Val)} {vs : List (κ × V)} : Rep S ρ H d v → KvR S ρ H kd ds vs → KvR S ρ H kd ((kd k, d) :: ds) ((k, v) :: vs)
theorem KvR.mono {S : Sy} {ρ ρ' : List Addr} {H H' : Hp} {κ : Type} {kd : κ → Val} (s : Sub ρ ρ') (k : Kp S H H') : ∀ {ds : List (Val × Val)} {vs : List (κ × V)}, KvR S ρ H kd ds vs → KvR S ρ' H' kd ds vs
  | _, _, .nil => .nil
  | _, _, .cons r t => .cons (r.mono s k) (t.mono s k)
inductive FsR (S : Sy) (ρ : List Addr) (H : Hp) : List (Nat × Val) → List (Str × V) → Prop where
  | nil : FsR S ρ H [] []
  | cons {n : Nat} {d : Val} {v : V} {ds : List (Nat × Val)} {vs : List (Str × V)} : Rep S ρ H d v → FsR S ρ H ds vs → FsR S ρ H ((n, d) :: ds) ((S.nm n, v) :: vs)
theorem FsR.mono {S : Sy} {ρ ρ' : List Addr} {H H' : Hp} (s : Sub ρ ρ') (k : Kp S H H') : ∀ {ds : List (Nat × Val)} {vs : List (Str × V)}, FsR S ρ H ds vs → FsR S ρ' H' ds vs
  | _, _, .nil => .nil
  | _, _, .cons r t => .cons (r.mono s k) (t.mono s k)
inductive ObR (S : Sy) (ρ : List Addr) (H : Hp) : Ob → Addr → Prop where
  | lst {xs : List Val} {vs : List V} {a : Addr} : H a = some (.lst vs) → Reps S ρ H xs vs → ObR S ρ H (.lst xs) a
  | fro {xs : List Val} {vs : List V} {a : Addr} {o : PySem.Obj} : H a = some (.frz o (.lst vs)) → Reps S ρ H xs vs → ObR S ρ H (.fro xs) a
  | dcK {kvs : List (Val × Val)} {vs : List (Key × V)} {a : Addr} : H a = some (.dK vs) → KvR S ρ H keyVal kvs vs → ObR S ρ H (.dcK kvs) a
  | dcT {kvs : List (Val × Val)} {vs : List (List Key × V)} {a : Addr} : H a = some (.dT vs) → KvR S ρ H (fun k => Val.tup (k.map keyVal)) kvs vs → ObR S ρ H (.dcT kvs) a
  | ins {c : Nat} {fs : List (Nat × Val)} {vs : List (Str × V)} {a dx : Addr} : H a = some (.ins (S.ca c) dx vs) → FsR S ρ H fs vs → ObR S ρ H (.ins c fs) a
theorem ObR.there {S : Sy} {ρ : List Addr} {H : Hp} {o : Ob} {a : Addr} (r : ObR S ρ H o a) : ∃ u, H a = some u := by
  cases r <;> exact ⟨_, by assumption⟩
theorem ObR.mono {S : Sy} {ρ ρ' : List Addr} {H H' : Hp} (s : Sub ρ ρ') (k : Kp S H H') {o : Ob} {a : Addr} (e : H' a = H a) (r : ObR S ρ H o a) : ObR S ρ' H' o a := by
  cases r with
  | lst h q => exact .lst (e.trans h) (q.mono s k)
  | fro h q => exact .fro (e.trans h) (q.mono s k)
  | dcK h q => exact .dcK (e.trans h) (q.mono s k)
  | dcT h q => exact .dcT (e.trans h) (q.mono s k)
  | ins h q => exact .ins (e.trans h) (q.mono s k)
/-- the heap is held -/
structure Rel (S : Sy) (ρ : List Addr) (h : Hea) (H : Hp) : Prop where
  len : h.length = ρ.length
  inj : ∀ (i j : Nat) (a : Addr), ρ[i]? = some a → ρ[j]? = some a → i = j
  ob : ∀ (i : Nat) (o : Ob) (a : Addr), h[i]? = some o → ρ[i]? = some a → ObR S ρ H o a
theorem Rel.at {S : Sy} {ρ : List Addr} {h : Hea} {H : Hp} (r : Rel S ρ h H) {i : Nat} {o : Ob} (e : h[i]? = some o) : ∃ a, ρ[i]? = some a ∧ ObR S ρ H o a := by
  have hi := (List.getElem?_eq_some_iff.mp e).1
  rw [r.len] at hi
  exact ⟨_, List.getElem?_eq_getElem hi, r.ob i o _ e (List.getElem?_eq_getElem hi)⟩
theorem Kp.new {S : Sy} {H : Hp} {p : Addr} {o : HO} (n : H p = none) : Kp S H (upd H p o) := by
  refine ⟨fun a xs h => ?_, fun a fs h => by rw [upd_ne (ne_of_none h n)]; exact h⟩
  rcases h with (h | ⟨u, h⟩) | h
  · exact .inl (.inl (by rw [upd_ne (ne_of_none h n)]; exact h))
  · exact .inl (.inr ⟨u, by rw [upd_ne (ne_of_none h n)]; exact h⟩)
  · exact .inr h
/-- what may be changed: no tuple, nothing locked, no error's dict -/
def Ch : HO → Prop
  | .tup _ => False
  | .frz _ _ => False
  | .xd _ => False
  | _ => True
theorem Kp.put {S : Sy} {H : Hp} {p : Addr} {o u : HO} (e : H p = some u) (h1 : Ch u) : Kp S H (upd H p o) := by
  refine ⟨fun a xs h => ?_, fun a fs h => by rw [upd_ne (ne_of h e (by rintro rfl; exact h1))]; exact h⟩
  rcases h with (h | ⟨w, h⟩) | h
  · exact .inl (.inl (by rw [upd_ne (ne_of h e (by rintro rfl; exact h1))]; exact h))
  · exact .inl (.inr ⟨w, by rw [upd_ne (ne_of h e (by rintro rfl; exact h1))]; exact h⟩)
  · exact .inr h
theorem Rel.free {S : Sy} {ρ : List Addr} {h : Hea} {H : Hp} (r : Rel S ρ h H) {p : Addr} (n : H p = none) {i : Nat} (e : ρ[i]? = some p) : False := by
  have hi := (List.getElem?_eq_some_iff.mp e).1
  rw [← r.len] at hi
  obtain ⟨u, q⟩ := (r.ob i _ p (List.getElem?_eq_getElem hi) e).there
  rw [n] at q; cases q
/-- a new thing that is not in the heap of the evaluator -/
theorem Rel.side {S : Sy} {ρ : List Addr} {h : Hea} {H : Hp} (r : Rel S ρ h H) {p : Addr} {o : HO} (n : H p = none) : Rel S ρ h (upd H p o) :=
  ⟨r.len, r.inj, fun i ob a e1 e2 => (r.ob i ob a e1 e2).mono .rfl (.new n) (upd_ne fun z => r.free n (z ▸ e2))⟩
/-- a new object -/
theorem Rel.new {S : Sy} {ρ : List Addr} {h : Hea} {H : Hp} (r : Rel S ρ h H) {p : Addr} {o : HO} {ob : Ob} (n : H p = none) (q : ObR S (ρ ++ [p]) (upd H p o) ob p) : Rel S (ρ ++ [p]) (h ++ [ob]) (upd H p o) := by
  have hl := r.len
  refine ⟨by simp [hl], fun i j a e1 e2 => ?_, fun i o' a e1 e2 => ?_⟩
  · by_cases h1 : i < ρ.length
    · rw [List.getElem?_append_left h1] at e1
      by_cases h2 : j < ρ.length
      · rw [List.getElem?_append_left h2] at e2
        exact r.inj i j a e1 e2
      · rw [List.getElem?_append_right (Nat.le_of_not_lt h2)] at e2
        have e3 := (List.mem_of_getElem? e2)
        simp at e3
        subst e3
        exact (r.free n e1).elim
    · rw [List.getElem?_append_right (Nat.le_of_not_lt h1)] at e1
      have e3 := (List.getElem?_eq_some_iff.mp e1).1
      have e4 := (List.mem_of_getElem? e1)
      simp at e3 e4
      subst e4
      by_cases h2 : j < ρ.length
      · rw [List.getElem?_append_left h2] at e2
        exact (r.free n e2).elim
      · rw [List.getElem?_append_right (Nat.le_of_not_lt h2)] at e2
        have e5 := (List.getElem?_eq_some_iff.mp e2).1
        simp at e5
        omega
  · by_cases h1 : i < ρ.length
    · rw [List.getElem?_append_left h1] at e2
      rw [List.getElem?_append_left (by omega)] at e1
      exact (r.ob i o' a e1 e2).mono .app (.new n) (upd_ne fun z => r.free n (z ▸ e2))
    · rw [List.getElem?_append_right (Nat.le_of_not_lt h1)] at e2
      rw [List.getElem?_append_right (by omega)] at e1
      have e3 := (List.mem_of_getElem? e2)
      have e4 := (List.mem_of_getElem? e1)
      simp at e3 e4
      subst e3 e4
      exact q
/-- an object changed -/
theorem Rel.put {S : Sy} {ρ : List Addr} {h : Hea} {H : Hp} (r : Rel S ρ h H) {i : Nat} {a : Addr} {u o : HO} {ob : Ob} (e : ρ[i]? = some a) (hu : H a = some u) (h1 : Ch u)
    (q : ObR S ρ (upd H a o) ob a) : Rel S ρ (h.set i ob) (upd H a o) := by
  refine ⟨by simp [r.len], r.inj, fun j o' b e1 e2 => ?_⟩
  by_cases hj : i = j
  · subst hj
    have hi := (List.getElem?_eq_some_iff.mp e).1
    rw [← r.len] at hi
    rw [List.getElem?_set_self hi] at e1
    cases e1
    rw [e] at e2; cases e2
    exact q
  · rw [List.getElem?_set_ne hj] at e1
    have nb : b ≠ a := fun z => hj (r.inj i j a e (z ▸ e2))
    exact (r.ob j o' b e1 e2).mono .rfl (.put hu h1) (upd_ne nb)
/-! ### the values of names -/
inductive ER (S : Sy) (ρ : List Addr) (H : Hp) : En → St → Prop where
  | nil : ER S ρ H [] []
  | cons {d : Option Val} {v : Option V} {ds : En} {vs : St} : (∀ x, d = some x → ∃ y, v = some y ∧ Rep S ρ H x y) → ER S ρ H ds vs → ER S ρ H (d :: ds) (v :: vs)
theorem ER.mono {S : Sy} {ρ ρ' : List Addr} {H H' : Hp} (s : Sub ρ ρ') (k : Kp S H H') : ∀ {ds : En} {vs : St}, ER S ρ H ds vs → ER S ρ' H' ds vs
  | _, _, .nil => .nil
  | _, _, .cons r t => .cons (fun x e => let ⟨y, e1, q⟩ := r x e; ⟨y, e1, q.mono s k⟩) (t.mono s k)
theorem ER.get {S : Sy} {ρ : List Addr} {H : Hp} : ∀ {ds : En} {vs : St} {i : Nat} {d : Val}, ER S ρ H ds vs → ds[i]? = some (some d) → ∃ v, vs[i]? = some (some v) ∧ Rep S ρ H d v
  | _, _, 0, _, .cons r _, e => by
    have e := Option.some.inj e
    obtain ⟨y, e1, q⟩ := r _ e
    subst e1
    exact ⟨_, rfl, q⟩
  | _, _, i + 1, _, .cons _ t, e => ER.get (i := i) t e
  | _, _, i, _, .nil, e => by simp at e
theorem ER.set {S : Sy} {ρ : List Addr} {H : Hp} {d : Val} {v : V} (r : Rep S ρ H d v) : ∀ {ds : En} {vs : St} (i : Nat), ER S ρ H ds vs → ER S ρ H (ds.set i (some d)) (vs.set i (some v))
  | _, _, _, .nil => .nil
  | _, _, 0, .cons _ t => .cons (fun x e => ⟨_, rfl, by cases e; exact r⟩) t
  | _, _, i + 1, .cons q t => .cons q (ER.set r i t)
theorem ER.gone {S : Sy} {ρ : List Addr} {H : Hp} {v : Option V} : ∀ {ds : En} {vs : St} (i : Nat), ER S ρ H ds vs → ER S ρ H (ds.set i none) (vs.set i v)
  | _, _, _, .nil => .nil
  | _, _, 0, .cons _ t => .cons (fun x e => nomatch e) t
  | _, _, i + 1, .cons q t => .cons q (ER.gone i t)
/-- forgetting on the evaluator's side alone -/
theorem ER.weak {S : Sy} {ρ : List Addr} {H : Hp} : ∀ {ds : En} {vs : St} (i : Nat), ER S ρ H ds vs → ER S ρ H (ds.set i none) vs
  | _, _, _, .nil => .nil
  | _, _, 0, .cons _ t => .cons (fun x e => nomatch e) t
  | _, _, i + 1, .cons q t => .cons q (ER.weak i t)
/-! ### going on -/
def Off (ρ : List Addr) (a : Addr) : Prop := ∀ i : Nat, ρ[i]? ≠ some a
/-- from one place to a later one: what was named stays named, tuples stay, what the evaluator does not hold stays, what is newly held was not there -/
structure Go (S : Sy) (ρ : List Addr) (H : Hp) (ρ' : List Addr) (H' : Hp) : Prop where
  sub : Sub ρ ρ'
  kp : Kp S H H'
  fr : ∀ a o, H a = some o → Off ρ a → H' a = some o
  nw : ∀ (i : Nat) (a : Addr), ρ'[i]? = some a → (∃ j : Nat, ρ[j]? = some a) ∨ H a = none
theorem Go.rfl {S : Sy} {ρ : List Addr} {H : Hp} : Go S ρ H ρ H := ⟨.rfl, .rfl, fun _ _ h _ => h, fun i _ h => .inl ⟨i, h⟩⟩
theorem Go.trans {S : Sy} {ρ ρ1 ρ2 : List Addr} {H H1 H2 : Hp} (a : Go S ρ H ρ1 H1) (b : Go S ρ1 H1 ρ2 H2) : Go S ρ H ρ2 H2 := by
  refine ⟨a.sub.trans b.sub, a.kp.trans b.kp, fun x o e n => b.fr x o (a.fr x o e n) fun i q => ?_, fun i x q => ?_⟩
  · rcases a.nw i x q with ⟨j, z⟩ | z
    · exact n j z
    · rw [z] at e; cases e
  · rcases b.nw i x q with ⟨j, z⟩ | z
    · exact a.nw j x z
    · cases e : H x with
      | none => exact .inr (Eq.refl _)
      | some o =>
        refine .inl (Classical.byContradiction fun n => ?_)
        have := a.fr x o e fun j w => n ⟨j, w⟩
        rw [z] at this; cases this
/-- a new thing at p, not held -/
theorem Go.side {S : Sy} {ρ : List Addr} {H : Hp} {p : Addr} {o : HO} (n : H p = none) : Go S ρ H ρ (upd H p o) :=
  ⟨.rfl, .new n, fun a u e _ => by rw [upd_ne (ne_of_none e n)]; exact e, fun i _ h => .inl ⟨i, h⟩⟩
/-- a new thing at p, held -/
theorem Go.new {S : Sy} {ρ : List Addr} {H : Hp} {p : Addr} {o : HO} (n : H p = none) : Go S ρ H (ρ ++ [p]) (upd H p o) := by
  refine ⟨.app, .new n, fun a u e _ => by rw [upd_ne (ne_of_none e n)]; exact e, fun i a h => ?_⟩
  by_cases hi : i < ρ.length
  · rw [List.getElem?_append_left hi] at h
    exact .inl ⟨i, h⟩
  · rw [List.getElem?_append_right (Nat.le_of_not_lt hi)] at h
    have := List.mem_of_getElem? h
    simp at this
    subst this
    exact .inr n
/-- a thing that is held is changed -/
theorem Go.put {S : Sy} {ρ : List Addr} {H : Hp} {i : Nat} {a : Addr} {u o : HO} (ea : ρ[i]? = some a) (e : H a = some u) (h1 : Ch u) : Go S ρ H ρ (upd H a o) :=
  ⟨.rfl, .put e h1, fun b w q n => by
    have hb : b ≠ a := fun z => n i (by rw [z]; exact ea)
    rw [upd_ne hb]; exact q, fun i _ h => .inl ⟨i, h⟩⟩
/-- what lies outside is changed, or held from now on -/
theorem Go.of {S : Sy} {ρ ρ' : List Addr} {H H' : Hp} (g : Go S ρ H ρ' H') : Sub ρ ρ' ∧ Kp S H H' := ⟨g.sub, g.kp⟩
/-! ### what is wanted behind -/
section
variable (S : Sy)
def Aft (ρ : List Addr) (H : Hp) (r : Res Val) (Q : VK) (W : XK) : Prop := match r with
  | .ok d h' => ∀ ρ' v H', Go S ρ H ρ' H' → Rel S ρ' h' H' → Rep S ρ' H' d v → Q v H'
  | .exc c d h' => ∀ ρ' v H' dx, Go S ρ H ρ' H' → Rel S ρ' h' H' → Rep S ρ' H' d v → H' dx = some (.xd [(S.fld c, v)]) → W (.ref (S.ca c)) (some dx) H'
  | .stuck => False
def AftS (ρ : List Addr) (H : Hp) (r : SRes) (D : Ends) (W : WX) : Prop := match r with
  | .nx e h' => ∀ ρ' σ' H', Go S ρ H ρ' H' → Rel S ρ' h' H' → ER S ρ' H' e σ' → D.nx σ' H'
  | .rt d h' => ∀ ρ' v H', Go S ρ H ρ' H' → Rel S ρ' h' H' → Rep S ρ' H' d v → D.rt v H'
  | .bk e h' => ∀ ρ' σ' H', Go S ρ H ρ' H' → Rel S ρ' h' H' → ER S ρ' H' e σ' → D.bk σ' H'
  | .ct e h' => ∀ ρ' σ' H', Go S ρ H ρ' H' → Rel S ρ' h' H' → ER S ρ' H' e σ' → D.ct σ' H'
  | .exc c d e h' => ∀ ρ' v σ' H' dx, Go S ρ H ρ' H' → Rel S ρ' h' H' → Rep S ρ' H' d v → ER S ρ' H' e σ' → H' dx = some (.xd [(S.fld c, v)]) → W (.ref (S.ca c)) (some dx) σ' H'
  | .stuck => False
def tE (W : WX) (f : En → Hea → Res Val) : TE := fun σ H Q => ∃ ρ e h, Rel S ρ h H ∧ ER S ρ H e σ ∧ Aft S ρ H (f e h) Q (fun c d H' => W c d σ H')
def tS (W : WX) (f : En → Hea → SRes) : TS := fun D σ H => ∃ ρ e h, Rel S ρ h H ∧ ER S ρ H e σ ∧ AftS S ρ H (f e h) D W
end
section
variable {S : Sy}
theorem Aft.later {ρ ρ1 : List Addr} {H H1 : Hp} {r : Res Val} {Q : VK} {W : XK} (a : Aft S ρ H r Q W) (s : Go S ρ H ρ1 H1) : Aft S ρ1 H1 r Q W := by
  cases r with
  | ok d h' => exact fun ρ2 v H2 s2 => a ρ2 v H2 (s.trans s2)
  | exc c d h' => exact fun ρ2 v H2 dx s2 => a ρ2 v H2 dx (s.trans s2)
  | stuck => exact a
theorem Aft.bind {ρ : List Addr} {H : Hp} {r : Res Val} {k : Val → Hea → Res Val} {Q : VK} {W : XK} (a : Aft S ρ H (r.bind k) Q W) :
    Aft S ρ H r (fun v H1 => ∃ ρ1 d h1, Go S ρ H ρ1 H1 ∧ Rel S ρ1 h1 H1 ∧ Rep S ρ1 H1 d v ∧ Aft S ρ1 H1 (k d h1) Q W) W := by
  cases r with
  | ok d h => exact fun ρ1 v H1 s R r => ⟨ρ1, d, h, s, R, r, Aft.later (r := k d h) a s⟩
  | exc c d h => exact a
  | stuck => exact a
theorem Aft.mono {ρ : List Addr} {H : Hp} {r : Res Val} {Q Q' : VK} {W : XK} (a : Aft S ρ H r Q W) (h : ∀ v H', Q v H' → Q' v H') : Aft S ρ H r Q' W := by
  cases r with
  | ok d h' => exact fun ρ1 v H1 s R r => h _ _ (a ρ1 v H1 s R r)
  | exc c d h' => exact a
  | stuck => exact a
theorem AftS.later {ρ ρ1 : List Addr} {H H1 : Hp} {r : SRes} {D : Ends} {W : WX} (a : AftS S ρ H r D W) (s : Go S ρ H ρ1 H1) : AftS S ρ1 H1 r D W := by
  cases r with
  | nx e h' => exact fun ρ2 σ H2 s2 => a ρ2 σ H2 (s.trans s2)
  | rt d h' => exact fun ρ2 σ H2 s2 => a ρ2 σ H2 (s.trans s2)
  | bk e h' => exact fun ρ2 σ H2 s2 => a ρ2 σ H2 (s.trans s2)
  | ct e h' => exact fun ρ2 σ H2 s2 => a ρ2 σ H2 (s.trans s2)
  | exc c d e h' => exact fun ρ2 v σ H2 dx s2 => a ρ2 v σ H2 dx (s.trans s2)
  | stuck => exact a
theorem Rep.go {ρ ρ' : List Addr} {H H' : Hp} {d : Val} {v : V} (r : Rep S ρ H d v) (g : Go S ρ H ρ' H') : Rep S ρ' H' d v := r.mono g.sub g.kp
theorem Reps.go {ρ ρ' : List Addr} {H H' : Hp} {d : List Val} {v : List V} (r : Reps S ρ H d v) (g : Go S ρ H ρ' H') : Reps S ρ' H' d v := r.mono g.sub g.kp
theorem ER.go {ρ ρ' : List Addr} {H H' : Hp} {d : En} {v : St} (r : ER S ρ H d v) (g : Go S ρ H ρ' H') : ER S ρ' H' d v := r.mono g.sub g.kp
end
theorem _root_.L2.PE.imp {X : Cx} {e : Expr} {t t' : TE} (p : PE X e t) (h : ∀ σ H Q, t' σ H Q → t σ H Q) : PE X e t' := ⟨fun pins s σ H Q I q => p.run pins s σ H Q I (h σ H Q q)⟩
theorem _root_.L2.PT.imp {X : Cx} {e : Expr} {t t' : TT} (p : PT X e t) (h : ∀ σ H Q, t' σ H Q → t σ H Q) : PT X e t' := ⟨fun pins s σ H Q I q => p.run pins s σ H Q I (h σ H Q q)⟩
theorem _root_.L2.PA.imp {X : Cx} {e : List Expr} {t t' : TA} (p : PA X e t) (h : ∀ σ H Q, t' σ H Q → t σ H Q) : PA X e t' := ⟨fun pos pins s σ H Q I q => p.run pos pins s σ H Q I (h σ H Q q)⟩
theorem _root_.L2.PS.imp {X : Cx} {e : Stmt} {t t' : TS} (p : PS X e t) (h : ∀ D σ H, t' D σ H → t D σ H) : PS X e t' := ⟨fun pins s σ H D I q => p.run pins s σ H D I (h D σ H q)⟩
theorem _root_.L2.PSs.imp {X : Cx} {e : List Stmt} {t t' : TS} (p : PSs X e t) (h : ∀ D σ H, t' D σ H → t D σ H) : PSs X e t' := ⟨fun pins s σ H D I q => p.run pins s σ H D I (h D σ H q)⟩
end Lad
end
/-! ## LadOps -/
section
set_option maxRecDepth 100000
set_option maxHeartbeats 1000000
namespace Lad
open PySem L2
/-! ### the tables that the evaluator's side of a program has -/
structure Tb where
  ca : Nat → Addr
  nm : Nat → Str
  fld : Nat → Str
  ex : Option (Addr × Nat × Addr)
abbrev sy (T : Tb) (X : Cx) : Sy := ⟨X.K, T.ca, T.nm, T.fld, T.ex⟩
/-! ### inversions -/
section
variable {S : Sy} {ρ : List Addr} {H : Hp}
theorem Rep.non_ {v : V} (r : Rep S ρ H .non v) : v = .non := by cases r; rfl
theorem Rep.bl_ {b : Bool} {v : V} (r : Rep S ρ H (.bl b) v) : v = .bl b := by cases r; rfl
theorem Rep.int_ {b : Int} {v : V} (r : Rep S ρ H (.int b) v) : v = .int b := by cases r; rfl
theorem Rep.str_ {b : Str} {v : V} (r : Rep S ρ H (.str b) v) : v = .str b := by cases r; rfl
theorem Rep.tup_ {ds : List Val} {v : V} (r : Rep S ρ H (.tup ds) v) : ∃ a vs, v = .ref a ∧ SqT S.K H a vs ∧ Reps S ρ H ds vs := by cases r; exact ⟨_, _, rfl, by assumption, by assumption⟩
theorem Rep.ref_ {i : Nat} {v : V} (r : Rep S ρ H (.ref i) v) : ∃ a, v = .ref a ∧ ρ[i]? = some a := by cases r; exact ⟨_, rfl, by assumption⟩
/-- a list of the heap, to be read -/
def lstAt (h : Hea) (i : Nat) : Option (List Val) := match h[i]? with
  | some (.lst xs) => some xs
  | some (.fro xs) => some xs
  | _ => none
theorem Rel.lst {h : Hea} (R : Rel S ρ h H) {i : Nat} {xs : List Val} (e : lstAt h i = some xs) {a : Addr} (ea : ρ[i]? = some a) : ∃ vs, SqL S.K H a vs ∧ Reps S ρ H xs vs := by
  unfold lstAt at e
  split at e
  · rename_i ys hy
    cases e
    have o := R.ob i _ a hy ea
    cases o with
    | lst h1 h2 => exact ⟨_, .inl (.inl h1), h2⟩
  · rename_i ys hy
    cases e
    have o := R.ob i _ a hy ea
    cases o with
    | fro h1 h2 => exact ⟨_, .inl (.inr ⟨_, h1⟩), h2⟩
  · cases e
end
def opt (o : Option Val) (h : Hea) : Res Val := match o with
  | some d => .ok d h
  | none => .stuck
section
variable {S : Sy} {ρ : List Addr} {H : Hp} {h : Hea} {Q : VK} {W : XK}
theorem Aft.same {d : Val} {v : V} (a : Aft S ρ H (.ok d h) Q W) (R : Rel S ρ h H) (r : Rep S ρ H d v) : Q v H := a ρ v H .rfl R r
theorem Aft.tup {ds : List Val} {vs : List V} (a : Aft S ρ H (.ok (.tup ds) h) Q W) (R : Rel S ρ h H) (r : Reps S ρ H ds vs) (p : Addr) (n : H p = none) : Q (.ref p) (upd H p (.tup vs)) :=
  a ρ (.ref p) _ (.side n) (R.side n) (.tup (.inl (.inl upd_same)) (r.mono .rfl (.new n)))
theorem Aft.new {ds : List Val} {vs : List V} (a : Aft S ρ H (.ok (.ref h.length) (h ++ [.lst ds])) Q W) (R : Rel S ρ h H) (r : Reps S ρ H ds vs) (p : Addr) (n : H p = none) : Q (.ref p) (upd H p (.lst vs)) :=
  a (ρ ++ [p]) (.ref p) _ (.new n) (R.new n (.lst upd_same (r.mono .app (.new n)))) (.ref (by rw [R.len]; simp))
end
/-! ### operators by values -/
def rB (S : Sy) (g : Hea → Val → Val → Option Val) : R2 := fun x y H Q => ∃ ρ h d1 d2, Rel S ρ h H ∧ Rep S ρ H d1 x ∧ Rep S ρ H d2 y ∧ Aft S ρ H (opt (g h d1 d2) h) Q (fun _ _ _ => False)
def rU1 (S : Sy) (g : Hea → Val → Option Val) : V → Hp → VK → Prop := fun x H Q => ∃ ρ h d, Rel S ρ h H ∧ Rep S ρ H d x ∧ Aft S ρ H (opt (g h d) h) Q (fun _ _ _ => False)
theorem OpR.imp {X : Cx} {f : Value → Value → Sem Value} {r r' : R2} (p : OpR X f r) (h : ∀ x y H Q, r' x y H Q → r x y H Q) : OpR X f r' := fun pins s σ H x y v u Q I rx ry q => p pins s σ H x y v u Q I rx ry (h x y H Q q)
def mulOk (i j : Int) : Bool := decide ((-(2 ^ 64) < i ∧ i < 2 ^ 64) ∨ (-(2 ^ 64) < j ∧ j < 2 ^ 64)) || decide (i.natAbs.log2 + j.natAbs.log2 < 1000000)
def oAdd : Hea → Val → Val → Option Val
  | _, .int a, .int b => some (.int (a + b))
  | _, .str a, .str b => if a.length + b.length ≤ 16777216 then some (.str (a ++ b)) else none
  | _, .tup a, .tup b => if a.length + b.length ≤ 16777216 then some (.tup (a ++ b)) else none
  | _, _, _ => none
def oSub : Hea → Val → Val → Option Val
  | _, .int a, .int b => some (.int (a - b))
  | _, _, _ => none
def oMul : Hea → Val → Val → Option Val
  | _, .int a, .int b => if mulOk a b = true then some (.int (a * b)) else none
  | _, _, _ => none
def oDiv : Hea → Val → Val → Option Val
  | _, .int a, .int b => if b ≠ 0 ∧ b.natAbs.log2 < 9000 then some (.int (a.fdiv b)) else none
  | _, _, _ => none
def oMod : Hea → Val → Val → Option Val
  | _, .int a, .int b => if b ≠ 0 then some (.int (a.fmod b)) else none
  | _, _, _ => none
def oPow : Hea → Val → Val → Option Val
  | _, .int a, .int b => if 0 ≤ b ∧ b ≤ 1000000 ∧ a.natAbs < 2 ^ 64 then some (.int (a ^ b.toNat)) else none
  | _, _, _ => none
def oNeg : Hea → Val → Option Val
  | _, .int a => some (.int (-a))
  | _, _ => none
section
variable {T : Tb} {X : Cx}
theorem o_add : OpR X (binaryOp .Add) (rB (sy T X) oAdd) := by
  refine OpR.imp (OpR.or op_add (OpR.or op_add_str op_catA)) fun x y H Q h => ?_
  obtain ⟨ρ, h, d1, d2, R, r1, r2, a⟩ := h
  unfold oAdd at a
  split at a
  · obtain rfl := r1.int_; obtain rfl := r2.int_
    exact .inl ⟨_, _, rfl, rfl, a.same R (.int _)⟩
  · obtain rfl := r1.str_; obtain rfl := r2.str_
    split at a
    · rename_i hl
      exact .inr (.inl ⟨_, _, rfl, rfl, by rw [sizeLine_eq]; exact hl, a.same R (.str _)⟩)
    · exact a.elim
  · obtain ⟨p1, v1, rfl, s1, q1⟩ := r1.tup_
    obtain ⟨p2, v2, rfl, s2, q2⟩ := r2.tup_
    split at a
    · rename_i hl
      have l1 := q1.length
      have l2 := q2.length
      refine .inr (.inr ⟨p1, p2, v1, v2, rfl, rfl, s1, s2, by rw [sizeLine_eq]; omega, fun e => ?_, fun _ e => ?_, fun _ _ p n => ?_⟩)
      · subst e
        cases q1
        exact a.same R (.tup s2 q2)
      · subst e
        cases q2
        have a : Aft _ ρ H (.ok (.tup (_ ++ [])) h) Q _ := a
        rw [List.append_nil] at a
        exact a.same R (.tup s1 q1)
      · exact a.tup R (q1.app q2) p n
    · exact a.elim
  · exact a.elim
theorem o_sub : OpR X (binaryOp .Sub) (rB (sy T X) oSub) := by
  refine OpR.imp op_sub fun x y H Q h => ?_
  obtain ⟨ρ, h, d1, d2, R, r1, r2, a⟩ := h
  unfold oSub at a
  split at a
  · obtain rfl := r1.int_; obtain rfl := r2.int_
    exact ⟨_, _, rfl, rfl, a.same R (.int _)⟩
  · exact a.elim
theorem o_mul : OpR X (binaryOp .Mult) (rB (sy T X) oMul) := by
  refine OpR.imp (OpR.or op_mul op_mulW) fun x y H Q h => ?_
  obtain ⟨ρ, h, d1, d2, R, r1, r2, a⟩ := h
  unfold oMul at a
  split at a
  · obtain rfl := r1.int_; obtain rfl := r2.int_
    split at a
    · rename_i hm
      unfold mulOk at hm
      rcases Bool.or_eq_true_iff.mp hm with hm | hm
      · have hm2 := of_decide_eq_true hm
        exact .inl ⟨_, _, rfl, rfl, hm2, a.same R (.int _)⟩
      · exact .inr ⟨_, _, rfl, rfl, (of_decide_eq_true (p := _ < 1000000) hm : _ < 1000000), a.same R (.int _)⟩
    · exact a.elim
  · exact a.elim
theorem op_fdivA : OpR X (binaryOp .FloorDiv) (rI (fun _ j => j ≠ 0 ∧ j.natAbs.log2 < 9000) fun i j => .int (i.fdiv j)) := opI fun _ _ _ _ _ _ _ hc q => PyProof.Rows.floordiv_int hc.1 q (.inl (PyProof.noPylong_of_log2 hc.2))
theorem o_div : OpR X (binaryOp .FloorDiv) (rB (sy T X) oDiv) := by
  refine OpR.imp op_fdivA fun x y H Q h => ?_
  obtain ⟨ρ, h, d1, d2, R, r1, r2, a⟩ := h
  unfold oDiv at a
  split at a
  · obtain rfl := r1.int_; obtain rfl := r2.int_
    split at a
    · rename_i hm
      exact ⟨_, _, rfl, rfl, hm, a.same R (.int _)⟩
    · exact a.elim
  · exact a.elim
theorem o_mod : OpR X (binaryOp .Mod) (rB (sy T X) oMod) := by
  refine OpR.imp op_modN fun x y H Q h => ?_
  obtain ⟨ρ, h, d1, d2, R, r1, r2, a⟩ := h
  unfold oMod at a
  split at a
  · obtain rfl := r1.int_; obtain rfl := r2.int_
    split at a
    · rename_i hm
      exact ⟨_, _, rfl, rfl, hm, a.same R (.int _)⟩
    · exact a.elim
  · exact a.elim
theorem o_pow : OpR X (binaryOp .Pow) (rB (sy T X) oPow) := by
  refine OpR.imp op_pow fun x y H Q h => ?_
  obtain ⟨ρ, h, d1, d2, R, r1, r2, a⟩ := h
  unfold oPow at a
  split at a
  · obtain rfl := r1.int_; obtain rfl := r2.int_
    split at a
    · rename_i hm
      exact ⟨_, _, rfl, rfl, hm, a.same R (.int _)⟩
    · exact a.elim
  · exact a.elim
theorem o_neg : UnR X (unaryOp .USub) (rU1 (sy T X) oNeg) := by
  intro pins s σ H x v Q I rx h
  refine un_neg pins s σ H x v Q I rx ?_
  obtain ⟨ρ, h, d, R, r, a⟩ := h
  unfold oNeg at a
  split at a
  · obtain rfl := r.int_
    exact ⟨_, rfl, a.same R (.int _)⟩
  · exact a.elim
end
/-! ### data, ==, in -/
def mapO {α β : Type} (f : α → Option β) : List α → Option (List β)
  | [] => some []
  | x :: xs => match f x, mapO f xs with
    | some y, some ys => some (y :: ys)
    | _, _ => none
def toD : Nat → Hea → Val → Option PyData
  | _, _, .non => some .none
  | _, _, .bl b => some (.bool b)
  | _, _, .int i => some (.int i)
  | _, _, .str x => some (.str x)
  | 0, _, _ => none
  | n + 1, h, .tup xs => match mapO (toD n h) xs with
    | some ys => some (.tuple ys)
    | none => none
  | n + 1, h, .ref i => match lstAt h i with
    | some xs => match mapO (toD n h) xs with
      | some ys => some (.list ys)
      | none => none
    | none => none
  | _ + 1, _, .exn _ _ => none
section
variable {S : Sy} {ρ : List Addr} {H : Hp} {h : Hea}
theorem mapO_dp (n : Nat) (ih : ∀ (d : Val) (v : V) (p : PyData), Rep S ρ H d v → toD n h d = some p → Dp S.K H v p) : ∀ (xs : List Val) (vs : List V) (ps : List PyData), Reps S ρ H xs vs → mapO (toD n h) xs = some ps → DpAll S.K H vs ps
  | [], _, _, .nil, e => by cases e; exact .nil
  | x :: xs, _, _, .cons r t, e => by
    unfold mapO at e
    split at e
    · rename_i y ys h1 h2
      cases e
      exact .cons (ih _ _ _ r h1) (mapO_dp n ih xs _ _ t h2)
    · cases e
theorem toD_dp (R : Rel S ρ h H) : ∀ (n : Nat) (d : Val) (v : V) (p : PyData), Rep S ρ H d v → toD n h d = some p → Dp S.K H v p := by
  intro n
  induction n with
  | zero =>
    intro d v p r e
    cases r <;> simp only [toD] at e <;> cases e <;> constructor
  | succ n ih =>
    intro d v p r e
    cases r with
    | non => simp only [toD] at e; cases e; exact .non
    | bl b => simp only [toD] at e; cases e; exact .bl b
    | int b => simp only [toD] at e; cases e; exact .int b
    | str b => simp only [toD] at e; cases e; exact .str b
    | tup s t =>
      simp only [toD] at e
      split at e
      · rename_i ys hy
        cases e
        exact .tup s (mapO_dp n ih _ _ _ t hy)
      · cases e
    | ref ea =>
      simp only [toD] at e
      split at e
      · rename_i xs hx
        split at e
        · rename_i ys hy
          cases e
          obtain ⟨vs, s, t⟩ := R.lst hx ea
          exact .lst s (mapO_dp n ih _ _ _ t hy)
        · cases e
      · cases e
    | exn h1 h2 r => simp only [toD] at e; cases e
end
def eqB (h : Hea) (a b : Val) : Option Bool := match toD 60 h a, toD 60 h b with
  | some p, some q => if SeqAt.shaped p = true ∧ SeqAt.shaped q = true then some (PyData.eqv p q) else none
  | _, _ => none
def oEq (h : Hea) (a b : Val) : Option Val := (eqB h a b).map .bl
def oNe (h : Hea) (a b : Val) : Option Val := (eqB h a b).map fun c => .bl (!c)
theorem eqB_some {h : Hea} {a b : Val} {c : Bool} (e : eqB h a b = some c) : ∃ p q, toD 60 h a = some p ∧ toD 60 h b = some q ∧ SeqAt.shaped p = true ∧ SeqAt.shaped q = true ∧ c = PyData.eqv p q := by
  unfold eqB at e
  split at e
  · split at e
    · rename_i p q h1 h2 hs
      cases e
      exact ⟨p, q, h1, h2, hs.1, hs.2, rfl⟩
    · cases e
  · cases e
section
variable {T : Tb} {X : Cx}
theorem o_eq (hu : X.A.units + 64 < cLine) : OpR X (compareOp .Eq) (rB (sy T X) oEq) := by
  refine OpR.imp (op_eqD hu) fun x y H Q h => ?_
  obtain ⟨ρ, h, d1, d2, R, r1, r2, a⟩ := h
  unfold oEq at a
  cases e : eqB h d1 d2 with
  | none => rw [e] at a; exact a.elim
  | some c =>
    rw [e] at a
    obtain ⟨p, q, e1, e2, s1, s2, rfl⟩ := eqB_some e
    exact ⟨p, q, toD_dp R _ _ _ _ r1 e1, toD_dp R _ _ _ _ r2 e2, s1, s2, Aft.same (d := .bl _) a R (.bl _)⟩
theorem o_ne (hu : X.A.units + 64 < cLine) : OpR X (compareOp .NotEq) (rB (sy T X) oNe) := by
  refine OpR.imp (op_neD hu) fun x y H Q h => ?_
  obtain ⟨ρ, h, d1, d2, R, r1, r2, a⟩ := h
  unfold oNe at a
  cases e : eqB h d1 d2 with
  | none => rw [e] at a; exact a.elim
  | some c =>
    rw [e] at a
    obtain ⟨p, q, e1, e2, s1, s2, rfl⟩ := eqB_some e
    exact ⟨p, q, toD_dp R _ _ _ _ r1 e1, toD_dp R _ _ _ _ r2 e2, s1, s2, Aft.same (d := .bl _) a R (.bl _)⟩
end
def inB (h : Hea) (a b : Val) : Option Bool := match toD 60 h a, toD 60 h b with
  | some p, some (.list qs) => if SeqAt.shaped p = true ∧ SeqAt.shaped (.list qs) = true then some (qs.any fun z => PyData.eqv z p) else none
  | some p, some (.tuple qs) => if SeqAt.shaped p = true ∧ SeqAt.shaped (.tuple qs) = true then some (qs.any fun z => PyData.eqv z p) else none
  | some (.str p), some (.str q) => some (!(Builtin.Str.occurrences q p 0 q.length 1).isEmpty)
  | _, _ => none
def oIn (h : Hea) (a b : Val) : Option Val := (inB h a b).map .bl
def oNotIn (h : Hea) (a b : Val) : Option Val := (inB h a b).map fun c => .bl (!c)
theorem toD_str {n : Nat} {h : Hea} {d : Val} {p : Str} (e : toD n h d = some (.str p)) : d = .str p := by
  cases d with
  | str z => cases n <;> (simp only [toD] at e; cases e; rfl)
  | non => cases n <;> (simp only [toD] at e; cases e)
  | bl z => cases n <;> (simp only [toD] at e; cases e)
  | int z => cases n <;> (simp only [toD] at e; cases e)
  | exn c z => cases n <;> (simp only [toD] at e; cases e)
  | tup z =>
    cases n with
    | zero => simp only [toD] at e; cases e
    | succ n =>
      simp only [toD] at e
      split at e <;> cases e
  | ref z =>
    cases n with
    | zero => simp only [toD] at e; cases e
    | succ n =>
      simp only [toD] at e
      split at e
      · split at e <;> cases e
      · cases e
section
variable {T : Tb} {X : Cx}
def rInT (K : PySem.W.Frag) (ng : Bool) : R2 := fun x y H Q => ∃ d ds, Dp K H x d ∧ Dp K H y (.tuple ds) ∧ SeqAt.shaped d = true ∧ SeqAt.shaped (.tuple ds) = true ∧ Q (.bl (if ng = true then !ds.any (fun z => PyData.eqv z d) else ds.any fun z => PyData.eqv z d)) H
theorem op_inT (hu : X.A.units + 65 < cLine) : OpR X (compareOp .In) (rInT X.K false) := by
  intro pins s σ H x y v u Q I rx ry h
  obtain ⟨d, ds, hd, he, sd, se, q⟩ := h
  obtain ⟨as, r1⟩ := Dp.reads I d x v hd rx
  obtain ⟨bs, r2⟩ := Dp.reads I (.tuple ds) y u he ry
  exact SeqAt.in_tuple_reads r2 r1 (SeqAt.canLay_of_shaped se) (SeqAt.canLay_of_shaped sd) (PyProof.Rows.room_in_shaped sd hu) ⟨.bl _, H, I, rfl, q⟩
theorem op_notInT (hu : X.A.units + 65 < cLine) : OpR X (compareOp .NotIn) (rInT X.K true) := by
  intro pins s σ H x y v u Q I rx ry h
  obtain ⟨d, ds, hd, he, sd, se, q⟩ := h
  obtain ⟨as, r1⟩ := Dp.reads I d x v hd rx
  obtain ⟨bs, r2⟩ := Dp.reads I (.tuple ds) y u he ry
  exact SeqAt.notIn_tuple_reads r2 r1 (SeqAt.canLay_of_shaped se) (SeqAt.canLay_of_shaped sd) (PyProof.Rows.room_in_shaped sd hu) ⟨.bl _, H, I, rfl, q⟩
theorem o_in (hu : X.A.units + 65 < cLine) : OpR X (compareOp .In) (rB (sy T X) oIn) := by
  refine OpR.imp (OpR.or (op_inD hu) (OpR.or (op_inT hu) op_in_str)) fun x y H Q h => ?_
  obtain ⟨ρ, h, d1, d2, R, r1, r2, a⟩ := h
  unfold oIn inB at a
  split at a
  · rename_i p qs e1 e2
    split at a
    · rename_i hs
      exact .inl ⟨p, qs, toD_dp R _ _ _ _ r1 e1, toD_dp R _ _ _ _ r2 e2, hs.1, hs.2, Aft.same (d := .bl _) a R (.bl _)⟩
    · exact a.elim
  · rename_i p qs e1 e2
    split at a
    · rename_i hs
      exact .inr (.inl ⟨p, qs, toD_dp R _ _ _ _ r1 e1, toD_dp R _ _ _ _ r2 e2, hs.1, hs.2, Aft.same (d := .bl _) a R (.bl _)⟩)
    · exact a.elim
  · rename_i p q e1 e2
    obtain rfl := toD_str e1
    obtain rfl := toD_str e2
    obtain rfl := r1.str_
    obtain rfl := r2.str_
    exact .inr (.inr ⟨p, q, rfl, rfl, Aft.same (d := .bl _) a R (.bl _)⟩)
  · exact a.elim
theorem o_notIn (hu : X.A.units + 65 < cLine) : OpR X (compareOp .NotIn) (rB (sy T X) oNotIn) := by
  refine OpR.imp (OpR.or (op_notInD hu) (OpR.or (op_notInT hu) op_notin_str)) fun x y H Q h => ?_
  obtain ⟨ρ, h, d1, d2, R, r1, r2, a⟩ := h
  unfold oNotIn inB at a
  split at a
  · rename_i p qs e1 e2
    split at a
    · rename_i hs
      exact .inl ⟨p, qs, toD_dp R _ _ _ _ r1 e1, toD_dp R _ _ _ _ r2 e2, hs.1, hs.2, Aft.same (d := .bl _) a R (.bl _)⟩
    · exact a.elim
  · rename_i p qs e1 e2
    split at a
    · rename_i hs
      exact .inr (.inl ⟨p, qs, toD_dp R _ _ _ _ r1 e1, toD_dp R _ _ _ _ r2 e2, hs.1, hs.2, Aft.same (d := .bl _) a R (.bl _)⟩)
    · exact a.elim
  · rename_i p q e1 e2
    obtain rfl := toD_str e1
    obtain rfl := toD_str e2
    obtain rfl := r1.str_
    obtain rfl := r2.str_
    exact .inr (.inr ⟨p, q, rfl, rfl, Aft.same (d := .bl _) a R (.bl _)⟩)
  · exact a.elim
end
/-! ### order -/
def lexLt : List Val → List Val → Option Bool
  | [], [] => some false
  | [], _ :: _ => some true
  | _ :: _, [] => some false
  | .int a :: as, .int b :: bs => if a = b then lexLt as bs else some (decide (a < b))
  | _, _ => none
def oLt : Hea → Val → Val → Option Val
  | _, .int a, .int b => some (.bl (decide (a < b)))
  | _, .str a, .str b => some (.bl (decide (a.cps.toList < b.cps.toList)))
  | _, _, _ => none
def oLe : Hea → Val → Val → Option Val
  | _, .int a, .int b => some (.bl (decide (a ≤ b)))
  | _, _, _ => none
def oGt : Hea → Val → Val → Option Val
  | _, .int a, .int b => some (.bl (decide (b < a)))
  | _, _, _ => none
def oGe : Hea → Val → Val → Option Val
  | _, .int a, .int b => some (.bl (decide (b ≤ a)))
  | _, _, _ => none
/-- is, is not: None or a bool on the right -/
def isB : Val → Val → Option Bool
  | .non, .non => some true
  | _, .non => some false
  | .bl a, .bl b => some (decide (a = b))
  | _, _ => none
def oIs (_ : Hea) (a b : Val) : Option Val := (isB a b).map .bl
def oIsNot (_ : Hea) (a b : Val) : Option Val := (isB a b).map fun c => .bl (!c)
section
variable {T : Tb} {X : Cx}
theorem o_lt : OpR X (compareOp .Lt) (rB (sy T X) oLt) := by
  refine OpR.imp (OpR.or op_lt op_lt_str) fun x y H Q h => ?_
  obtain ⟨ρ, h, d1, d2, R, r1, r2, a⟩ := h
  unfold oLt at a
  split at a
  · obtain rfl := r1.int_; obtain rfl := r2.int_
    exact .inl ⟨_, _, rfl, rfl, a.same R (.bl _)⟩
  · obtain rfl := r1.str_; obtain rfl := r2.str_
    exact .inr ⟨_, _, rfl, rfl, a.same R (.bl _)⟩
  · exact a.elim
theorem o_le : OpR X (compareOp .LtE) (rB (sy T X) oLe) := by
  refine OpR.imp op_le fun x y H Q h => ?_
  obtain ⟨ρ, h, d1, d2, R, r1, r2, a⟩ := h
  unfold oLe at a
  split at a
  · obtain rfl := r1.int_; obtain rfl := r2.int_
    exact ⟨_, _, rfl, rfl, a.same R (.bl _)⟩
  · exact a.elim
theorem o_gt : OpR X (compareOp .Gt) (rB (sy T X) oGt) := by
  refine OpR.imp op_gt fun x y H Q h => ?_
  obtain ⟨ρ, h, d1, d2, R, r1, r2, a⟩ := h
  unfold oGt at a
  split at a
  · obtain rfl := r1.int_; obtain rfl := r2.int_
    exact ⟨_, _, rfl, rfl, a.same R (.bl _)⟩
  · exact a.elim
theorem o_ge : OpR X (compareOp .GtE) (rB (sy T X) oGe) := by
  refine OpR.imp op_ge fun x y H Q h => ?_
  obtain ⟨ρ, h, d1, d2, R, r1, r2, a⟩ := h
  unfold oGe at a
  split at a
  · obtain rfl := r1.int_; obtain rfl := r2.int_
    exact ⟨_, _, rfl, rfl, a.same R (.bl _)⟩
  · exact a.elim
theorem o_is : OpR X (compareOp .Is) (rB (sy T X) oIs) := by
  refine OpR.imp (OpR.or op_isN op_is_bl) fun x y H Q h => ?_
  obtain ⟨ρ, h, d1, d2, R, r1, r2, a⟩ := h
  unfold oIs isB at a
  split at a
  · obtain rfl := r1.non_; obtain rfl := r2.non_
    exact .inl ⟨rfl, Aft.same (d := .bl _) a R (.bl _)⟩
  · rename_i hn
    obtain rfl := r2.non_
    refine .inl ⟨rfl, ?_⟩
    have e : decide (x = V.non) = false := by
      refine decide_eq_false fun z => ?_
      subst z
      cases r1
      exact hn rfl
    rw [e]
    exact Aft.same (d := .bl _) a R (.bl _)
  · obtain rfl := r1.bl_; obtain rfl := r2.bl_
    exact .inr ⟨_, _, rfl, rfl, Aft.same (d := .bl _) a R (.bl _)⟩
  · exact a.elim
theorem o_isNot : OpR X (compareOp .IsNot) (rB (sy T X) oIsNot) := by
  refine OpR.imp (OpR.or op_notN op_isnot_bl) fun x y H Q h => ?_
  obtain ⟨ρ, h, d1, d2, R, r1, r2, a⟩ := h
  unfold oIsNot isB at a
  split at a
  · obtain rfl := r1.non_; obtain rfl := r2.non_
    exact .inl ⟨rfl, Aft.same (d := .bl _) a R (.bl _)⟩
  · rename_i hn
    obtain rfl := r2.non_
    refine .inl ⟨rfl, ?_⟩
    have e : decide (x = V.non) = false := by
      refine decide_eq_false fun z => ?_
      subst z
      cases r1
      exact hn rfl
    rw [e]
    exact Aft.same (d := .bl _) a R (.bl _)
  · obtain rfl := r1.bl_; obtain rfl := r2.bl_
    exact .inr ⟨_, _, rfl, rfl, Aft.same (d := .bl _) a R (.bl _)⟩
  · exact a.elim
end
end Lad
end
/-! ## LadEx -/
section
set_option maxRecDepth 100000
set_option maxHeartbeats 1000000
namespace Lad
open PySem L2
theorem itT {c : Bool} {A B : Prop} (e : c = true) (h : A) : if c = true then A else B := by rw [if_pos e]; exact h
theorem itF {c : Bool} {A B : Prop} (e : c = false) (h : B) : if c = true then A else B := by rw [if_neg (by rw [e]; decide)]; exact h
/-! ### judgements: an expression; one that makes a list that nothing else holds; arguments; a test -/
section
variable (S : Sy)
def AftL (ρ : List Addr) (H : Hp) (r : Res (List Val)) (Q : VK) (W : XK) : Prop := match r with
  | .ok xs h' => ∀ ρ' p vs H', Go S ρ H ρ' H' → Rel S ρ' h' H' → H' p = some (.lst vs) → Off ρ' p → H p = none → Reps S ρ' H' xs vs → Q (.ref p) H'
  | .exc c d h' => ∀ ρ' v H' dx, Go S ρ H ρ' H' → Rel S ρ' h' H' → Rep S ρ' H' d v → H' dx = some (.xd [(S.fld c, v)]) → W (.ref (S.ca c)) (some dx) H'
  | .stuck => False
def AftA (ρ : List Addr) (H : Hp) (r : Res (List Val)) (Q : List V → Hp → Prop) (W : XK) : Prop := match r with
  | .ok xs h' => ∀ ρ' vs H', Go S ρ H ρ' H' → Rel S ρ' h' H' → Reps S ρ' H' xs vs → Q vs H'
  | .exc c d h' => ∀ ρ' v H' dx, Go S ρ H ρ' H' → Rel S ρ' h' H' → Rep S ρ' H' d v → H' dx = some (.xd [(S.fld c, v)]) → W (.ref (S.ca c)) (some dx) H'
  | .stuck => False
def tL (W : WX) (f : En → Hea → Res (List Val)) : TE := fun σ H Q => ∃ ρ e h, Rel S ρ h H ∧ ER S ρ H e σ ∧ AftL S ρ H (f e h) Q (fun c d H' => W c d σ H')
def tA (W : WX) (f : En → Hea → Res (List Val)) : TA := fun σ H Q => ∃ ρ e h, Rel S ρ h H ∧ ER S ρ H e σ ∧ AftA S ρ H (f e h) Q (fun c d H' => W c d σ H')
end
abbrev SE (T : Tb) (X : Cx) (W : WX) (e : Expr) (f : En → Hea → Res Val) : Prop := PE X e (tE (sy T X) W f)
abbrev SL (T : Tb) (X : Cx) (W : WX) (e : Expr) (f : En → Hea → Res (List Val)) : Prop := PE X e (tL (sy T X) W f)
abbrev SA (T : Tb) (X : Cx) (W : WX) (es : List Expr) (f : En → Hea → Res (List Val)) : Prop := PA X es (tA (sy T X) W f)
abbrev ST (T : Tb) (X : Cx) (W : WX) (e : Expr) (f : En → Hea → Res Val) : Prop := PT X e (tB (tE (sy T X) W f))
/-! ### one after the other -/
section
variable {S : Sy} {W : WX} {σ : St} {H : Hp} {Q : VK}
/-- where an expression has been -/
structure Been (S : Sy) (σ : St) (H : Hp) (v : V) (ρ : List Addr) (e : En) (d : Val) (h : Hea) : Prop where
  rel : Rel S ρ h H
  env : ER S ρ H e σ
  rep : Rep S ρ H d v
theorem tE.bind {f : En → Hea → Res Val} {g : En → Val → Hea → Res Val} (a : tE S W (fun e h => (f e h).bind (g e)) σ H Q) :
    tE S W f σ H (fun v H1 => ∃ ρ e d h, Been S σ H1 v ρ e d h ∧ Aft S ρ H1 (g e d h) Q (fun c d H' => W c d σ H')) := by
  obtain ⟨ρ, e, h, R, E, a⟩ := a
  exact ⟨ρ, e, h, R, E, a.bind.mono fun v H1 ⟨ρ1, d, h1, s, R1, r, a⟩ => ⟨ρ1, e, d, h1, ⟨R1, E.go s, r⟩, a⟩⟩
/-- a second one behind it -/
theorem Been.then_ {v : V} {ρ : List Addr} {e : En} {d : Val} {h : Hea} {f : En → Hea → Res Val} {k : Val → Hea → Res Val} (b : Been S σ H v ρ e d h) (a : Aft S ρ H ((f e h).bind k) Q (fun c d H' => W c d σ H')) :
    tE S W f σ H (fun v2 H2 => ∃ ρ2 d2 h2, Been S σ H2 v2 ρ2 e d2 h2 ∧ Rep S ρ2 H2 d v ∧ Aft S ρ2 H2 (k d2 h2) Q (fun c d H' => W c d σ H')) :=
  ⟨ρ, e, h, b.rel, b.env, a.bind.mono fun v2 H2 ⟨ρ2, d2, h2, s, R2, r2, a2⟩ => ⟨ρ2, d2, h2, ⟨R2, b.env.go s, r2⟩, b.rep.go s, a2⟩⟩
theorem Aft.noW {ρ : List Addr} {h : Hea} {o : Option Val} {W W' : XK} (a : Aft S ρ H (opt o h) Q W) : Aft S ρ H (opt o h) Q W' := by
  cases o with
  | some d => exact a
  | none => exact a
end
/-! ### names, constants -/
def eVar (i : Nat) : En → Hea → Res Val := fun e h => match e[i]? with
  | some (some d) => .ok d h
  | _ => .stuck
def eC (d : Val) : En → Hea → Res Val := fun _ h => .ok d h
section
variable {T : Tb} {X : Cx} {W : WX}
theorem se_var {i : Nat} {x : Str} {pos : Pos} (p : PE X (.Name x pos) (tVar i)) : SE T X W (.Name x pos) (eVar i) := p.imp fun σ H Q h => by
  obtain ⟨ρ, e, h, R, E, a⟩ := h
  unfold eVar at a
  split at a
  · rename_i d hd
    obtain ⟨v, ev, r⟩ := E.get hd
    exact ⟨v, ev, a.same R r⟩
  · exact a.elim
theorem se_cst {e : Expr} {d : Val} {v : V} (p : PE X e (tC v)) (hr : ∀ ρ H, Rep (sy T X) ρ H d v) : SE T X W e (eC d) := p.imp fun σ H Q h => by
  obtain ⟨ρ, e, h, R, E, a⟩ := h
  exact a.same R (hr ρ H)
theorem se_int {i j pos} : SE T X W (.Constant (.int i) j pos) (eC (.int i)) := se_cst pe_int fun _ _ => .int i
theorem se_bl {i j pos} : SE T X W (.Constant (.bool i) j pos) (eC (.bl i)) := se_cst pe_bl fun _ _ => .bl i
theorem se_non {j pos} : SE T X W (.Constant .none j pos) (eC .non) := se_cst pe_non fun _ _ => .non
theorem se_str {i j pos} : SE T X W (.Constant (.str i) j pos) (eC (.str i)) := se_cst pe_str fun _ _ => .str i
end
/-! ### operators -/
def eBin (g : Hea → Val → Val → Option Val) (f1 f2 : En → Hea → Res Val) : En → Hea → Res Val := fun e h => (f1 e h).bind fun x h1 => (f2 e h1).bind fun y h2 => opt (g h2 x y) h2
def eUn (g : Hea → Val → Option Val) (f : En → Hea → Res Val) : En → Hea → Res Val := fun e h => (f e h).bind fun x h1 => opt (g h1 x) h1
section
variable {T : Tb} {X : Cx} {W : WX} {a b c : Expr} {f1 f2 f3 : En → Hea → Res Val} {pos : Pos}
theorem bin_imp {g : Hea → Val → Val → Option Val} {σ : St} {H : Hp} {Q : VK} (q : tE (sy T X) W (eBin g f1 f2) σ H Q) : tOp (rB (sy T X) g) (tE (sy T X) W f1) (tE (sy T X) W f2) σ H Q := by
  obtain ⟨ρ, e, h, R, E, a⟩ := tE.bind (f := f1) (g := fun e x h1 => (f2 e h1).bind fun y h2 => opt (g h2 x y) h2) q
  refine ⟨ρ, e, h, R, E, a.mono fun v H1 ⟨ρ1, e1, d1, h1, b1, a1⟩ => ?_⟩
  obtain ⟨ρ', e', h', R', E', a'⟩ := b1.then_ (f := f2) (W := W) a1
  exact ⟨ρ', e', h', R', E', a'.mono fun v2 H2 ⟨ρ2, d2, h2, b2, r, a2⟩ => ⟨ρ2, h2, d1, d2, b2.rel, r, b2.rep, a2.noW⟩⟩
theorem se_bin {op : Operator} {g : Hea → Val → Val → Option Val} (ho : OpR X (binaryOp op) (rB (sy T X) g)) (ha : SE T X W a f1) (hb : SE T X W b f2) : SE T X W (.BinOp a op b pos) (eBin g f1 f2) :=
  (pe_op ho ha hb).imp fun σ H Q q => bin_imp q
theorem se_un {op : UnaryOp} {g : Hea → Val → Option Val} (ho : UnR X (unaryOp op) (rU1 (sy T X) g)) (ha : SE T X W a f1) : SE T X W (.UnaryOp op a pos) (eUn g f1) :=
  (pe_un ho ha).imp fun σ H Q q => by
    obtain ⟨ρ, e, h, R, E, a⟩ := tE.bind (f := f1) (g := fun e x h1 => opt (g h1 x) h1) q
    exact ⟨ρ, e, h, R, E, a.mono fun v H1 ⟨ρ1, e1, d1, h1, b1, a1⟩ => ⟨ρ1, h1, d1, b1.rel, b1.rep, a1.noW⟩⟩
theorem se_cmp {op : CmpOp} {g : Hea → Val → Val → Option Val} (ho : OpR X (compareOp op) (rB (sy T X) g)) (ha : SE T X W a f1) (hb : SE T X W b f2) (hm : behindInMarks op b = false) : SE T X W (.Compare a [op] [b] pos) (eBin g f1 f2) :=
  (pe_cmpR ho ha hb hm).imp fun σ H Q q => bin_imp q
theorem st_cmp {op : CmpOp} {g : Hea → Val → Val → Option Val} (ho : OpR X (compareOp op) (rB (sy T X) g)) (ha : SE T X W a f1) (hb : SE T X W b f2) (hm : behindInMarks op b = false) : ST T X W (.Compare a [op] [b] pos) (eBin g f1 f2) :=
  (pt_cmpR ho ha hb hm).imp fun σ H Q q => bin_imp q
/-- a op b op' c -/
def eChain (g g' : Hea → Val → Val → Option Val) (f1 f2 f3 : En → Hea → Res Val) : En → Hea → Res Val := fun e h => (f1 e h).bind fun x h1 => (f2 e h1).bind fun y h2 => match g h2 x y with
  | some (.bl true) => (f3 e h2).bind fun z h3 => opt (g' h3 y z) h3
  | some (.bl false) => .ok (.bl false) h2
  | _ => .stuck
theorem chain_imp {g g' : Hea → Val → Val → Option Val} {σ : St} {H : Hp} {Q : VK} (q : tE (sy T X) W (eChain g g' f1 f2 f3) σ H Q) : tChain (rB (sy T X) g) (rB (sy T X) g') (tE (sy T X) W f1) (tE (sy T X) W f2) (tE (sy T X) W f3) σ H Q := by
  obtain ⟨ρ, e, h, R, E, a⟩ := tE.bind (f := f1) (g := fun e x h1 => (f2 e h1).bind fun y h2 => match g h2 x y with
    | some (.bl true) => (f3 e h2).bind fun z h3 => opt (g' h3 y z) h3
    | some (.bl false) => .ok (.bl false) h2
    | _ => .stuck) q
  refine ⟨ρ, e, h, R, E, a.mono fun v H1 ⟨ρ1, e1, d1, h1, b1, a1⟩ => ?_⟩
  obtain ⟨ρ', e', h', R', E', a'⟩ := b1.then_ (f := f2) (W := W) a1
  refine ⟨ρ', e', h', R', E', a'.mono fun v2 H2 ⟨ρ2, d2, h2, b2, r, a2⟩ => ⟨ρ2, h2, d1, d2, b2.rel, r, b2.rep, ?_⟩⟩
  split at a2
  · rename_i hg
    rw [hg]
    refine fun ρ3 v3 H3 s3 R3 r3 => ?_
    obtain rfl := r3.bl_
    refine ⟨true, rfl, ?_⟩
    refine itT rfl ?_
    have b3 : Been (sy T X) σ H3 v2 ρ3 e1 d2 h2 := ⟨R3, b2.env.go s3, b2.rep.go s3⟩
    obtain ⟨ρ4, e4, h4, R4, E4, a4⟩ := b3.then_ (f := f3) (W := W) (a2.later s3)
    exact ⟨ρ4, e4, h4, R4, E4, a4.mono fun v5 H5 ⟨ρ5, d5, h5, b5, r5, a5⟩ => ⟨ρ5, h5, d2, d5, b5.rel, r5, b5.rep, a5.noW⟩⟩
  · rename_i hg
    rw [hg]
    refine fun ρ3 v3 H3 s3 R3 r3 => ?_
    obtain rfl := r3.bl_
    refine ⟨false, rfl, ?_⟩
    refine itF rfl ?_
    exact a2 ρ3 _ H3 s3 R3 r3
  · exact a2.elim
theorem se_chain {op op' : CmpOp} {g g' : Hea → Val → Val → Option Val} (ho : OpR X (compareOp op) (rB (sy T X) g)) (ho' : OpR X (compareOp op') (rB (sy T X) g')) (ha : SE T X W a f1) (hb : SE T X W b f2) (hc : SE T X W c f3)
    (p : PE X (.Compare a [op, op'] [b, c] pos) (tChain (rB (sy T X) g) (rB (sy T X) g') (tE (sy T X) W f1) (tE (sy T X) W f2) (tE (sy T X) W f3))) : SE T X W (.Compare a [op, op'] [b, c] pos) (eChain g g' f1 f2 f3) :=
  p.imp fun σ H Q q => chain_imp q
end
/-! ### and, or, not, x if c else y -/
def eAnd (f1 f2 : En → Hea → Res Val) : En → Hea → Res Val := fun e h => (f1 e h).bind fun x h1 => match x with
  | .bl true => f2 e h1
  | .bl false => .ok (.bl false) h1
  | _ => .stuck
def eOr (f1 f2 : En → Hea → Res Val) : En → Hea → Res Val := fun e h => (f1 e h).bind fun x h1 => match x with
  | .bl true => .ok (.bl true) h1
  | .bl false => f2 e h1
  | _ => .stuck
def oNot : Hea → Val → Option Val
  | _, .bl b => some (.bl (!b))
  | _, _ => none
def eIf (f1 f2 f3 : En → Hea → Res Val) : En → Hea → Res Val := fun e h => (f1 e h).bind fun x h1 => match x with
  | .bl true => f2 e h1
  | .bl false => f3 e h1
  | _ => .stuck
section
variable {T : Tb} {X : Cx} {W : WX} {a b c : Expr} {rest : List Expr} {f1 f2 f3 : En → Hea → Res Val} {pos : Pos}
theorem se_one {op} (h : SE T X W a f1) : SE T X W (.BoolOp op [a] pos) f1 := pe_one h
theorem se_and (ha : SE T X W a f1) (hb : SE T X W (.BoolOp .And (b :: rest) pos) f2) : SE T X W (.BoolOp .And (a :: b :: rest) pos) (eAnd f1 f2) := (pe_and ha hb).imp fun σ H Q q => by
  obtain ⟨ρ, e, h, R, E, a⟩ := tE.bind (f := f1) (g := fun e x h1 => match x with | .bl true => f2 e h1 | .bl false => .ok (.bl false) h1 | _ => .stuck) q
  refine ⟨ρ, e, h, R, E, a.mono fun v H1 ⟨ρ1, e1, d1, h1, b1, a1⟩ => ?_⟩
  obtain ⟨R1, E1, r1⟩ := b1
  split at a1
  · obtain rfl := r1.bl_
    refine ⟨true, rfl, ?_⟩
    refine itT rfl ?_
    exact ⟨ρ1, e1, h1, R1, E1, a1⟩
  · obtain rfl := r1.bl_
    refine ⟨false, rfl, ?_⟩
    refine itF rfl ?_
    exact a1.same R1 (.bl _)
  · exact a1.elim
theorem se_or (ha : SE T X W a f1) (hb : SE T X W (.BoolOp .Or (b :: rest) pos) f2) : SE T X W (.BoolOp .Or (a :: b :: rest) pos) (eOr f1 f2) := (pe_or ha hb).imp fun σ H Q q => by
  obtain ⟨ρ, e, h, R, E, a⟩ := tE.bind (f := f1) (g := fun e x h1 => match x with | .bl true => .ok (.bl true) h1 | .bl false => f2 e h1 | _ => .stuck) q
  refine ⟨ρ, e, h, R, E, a.mono fun v H1 ⟨ρ1, e1, d1, h1, b1, a1⟩ => ?_⟩
  obtain ⟨R1, E1, r1⟩ := b1
  split at a1
  · obtain rfl := r1.bl_
    refine ⟨true, rfl, ?_⟩
    refine itT rfl ?_
    exact a1.same R1 (.bl _)
  · obtain rfl := r1.bl_
    refine ⟨false, rfl, ?_⟩
    refine itF rfl ?_
    exact ⟨ρ1, e1, h1, R1, E1, a1⟩
  · exact a1.elim
theorem se_not (ha : SE T X W a f1) : SE T X W (.UnaryOp .Not a pos) (eUn oNot f1) := (pe_not ha).imp fun σ H Q q => by
  obtain ⟨ρ, e, h, R, E, a⟩ := tE.bind (f := f1) (g := fun e x h1 => opt (oNot h1 x) h1) q
  refine ⟨ρ, e, h, R, E, a.mono fun v H1 ⟨ρ1, e1, d1, h1, b1, a1⟩ => ?_⟩
  obtain ⟨R1, E1, r1⟩ := b1
  unfold oNot at a1
  split at a1
  · obtain rfl := r1.bl_
    exact ⟨_, rfl, a1.same R1 (.bl _)⟩
  · exact a1.elim
/-! tests -/
theorem st_val (h : SE T X W a f1) (he : ∀ whole, isTrue a X.env whole = (do let v ← whole; standAt a.pos; holding [v] (truthy v)) := by intro _; rfl) : ST T X W a f1 := pt_val h he
def tAndW (f1 f2 : En → Hea → Res Val) (S : Sy) (W : WX) : TT := tB (tE S W (eAnd f1 f2))
theorem sw_one (h : ST T X W a f1) : PW X (.BoolOp .And [a] pos) (tB (tE (sy T X) W f1)) := pw_and1 h
theorem sw_oneO (h : ST T X W a f1) : PW X (.BoolOp .Or [a] pos) (tB (tE (sy T X) W f1)) := pw_or1 h
theorem _root_.L2.PW.imp {e : Expr} {t t' : TT} (p : PW X e t) (h : ∀ σ H Q, t' σ H Q → t σ H Q) : PW X e t' := ⟨fun whole pins s σ H Q I q => p.run whole pins s σ H Q I (h σ H Q q)⟩
theorem sw_and (ha : ST T X W a f1) (hb : PW X (.BoolOp .And (b :: rest) pos) (tB (tE (sy T X) W f2))) : PW X (.BoolOp .And (a :: b :: rest) pos) (tB (tE (sy T X) W (eAnd f1 f2))) := (pw_and ha hb).imp fun σ H Q q => by
  obtain ⟨ρ, e, h, R, E, a⟩ := tE.bind (f := f1) (g := fun e x h1 => match x with | .bl true => f2 e h1 | .bl false => .ok (.bl false) h1 | _ => .stuck) q
  refine ⟨ρ, e, h, R, E, a.mono fun v H1 ⟨ρ1, e1, d1, h1, b1, a1⟩ => ?_⟩
  obtain ⟨R1, E1, r1⟩ := b1
  split at a1
  · obtain rfl := r1.bl_
    refine ⟨true, rfl, ?_⟩
    refine itT rfl ?_
    exact ⟨ρ1, e1, h1, R1, E1, a1⟩
  · obtain rfl := r1.bl_
    refine ⟨false, rfl, ?_⟩
    refine itF rfl ?_
    obtain ⟨c, ec, q⟩ := a1.same R1 (.bl _)
    cases ec
    exact q
  · exact a1.elim
theorem sw_or (ha : ST T X W a f1) (hb : PW X (.BoolOp .Or (b :: rest) pos) (tB (tE (sy T X) W f2))) : PW X (.BoolOp .Or (a :: b :: rest) pos) (tB (tE (sy T X) W (eOr f1 f2))) := (pw_or ha hb).imp fun σ H Q q => by
  obtain ⟨ρ, e, h, R, E, a⟩ := tE.bind (f := f1) (g := fun e x h1 => match x with | .bl true => .ok (.bl true) h1 | .bl false => f2 e h1 | _ => .stuck) q
  refine ⟨ρ, e, h, R, E, a.mono fun v H1 ⟨ρ1, e1, d1, h1, b1, a1⟩ => ?_⟩
  obtain ⟨R1, E1, r1⟩ := b1
  split at a1
  · obtain rfl := r1.bl_
    refine ⟨true, rfl, ?_⟩
    refine itT rfl ?_
    obtain ⟨c, ec, q⟩ := a1.same R1 (.bl _)
    cases ec
    exact q
  · obtain rfl := r1.bl_
    refine ⟨false, rfl, ?_⟩
    refine itF rfl ?_
    exact ⟨ρ1, e1, h1, R1, E1, a1⟩
  · exact a1.elim
theorem st_bool {op} (h : PW X (.BoolOp op (a :: rest) pos) (tB (tE (sy T X) W f1))) : ST T X W (.BoolOp op (a :: rest) pos) f1 := h.pt
theorem st_not (ha : ST T X W a f1) : ST T X W (.UnaryOp .Not a pos) (eUn oNot f1) := (pt_not ha).imp fun σ H Q q => by
  obtain ⟨ρ, e, h, R, E, a⟩ := tE.bind (f := f1) (g := fun e x h1 => opt (oNot h1 x) h1) q
  refine ⟨ρ, e, h, R, E, a.mono fun v H1 ⟨ρ1, e1, d1, h1, b1, a1⟩ => ?_⟩
  obtain ⟨R1, E1, r1⟩ := b1
  unfold oNot at a1
  split at a1
  · obtain rfl := r1.bl_
    obtain ⟨c, ec, q⟩ := a1.same R1 (.bl _)
    cases ec
    exact ⟨_, rfl, q⟩
  · exact a1.elim
theorem se_if (hc : ST T X W c f1) (ha : SE T X W a f2) (hb : SE T X W b f3) : SE T X W (.IfExp c a b pos) (eIf f1 f2 f3) := (pe_ifExp hc ha hb).imp fun σ H Q q => by
  obtain ⟨ρ, e, h, R, E, a⟩ := tE.bind (f := f1) (g := fun e x h1 => match x with | .bl true => f2 e h1 | .bl false => f3 e h1 | _ => .stuck) q
  refine ⟨ρ, e, h, R, E, a.mono fun v H1 ⟨ρ1, e1, d1, h1, b1, a1⟩ => ?_⟩
  obtain ⟨R1, E1, r1⟩ := b1
  split at a1
  · obtain rfl := r1.bl_
    refine ⟨true, rfl, ?_⟩
    refine itT rfl ?_
    exact ⟨ρ1, e1, h1, R1, E1, a1⟩
  · obtain rfl := r1.bl_
    refine ⟨false, rfl, ?_⟩
    refine itF rfl ?_
    exact ⟨ρ1, e1, h1, R1, E1, a1⟩
  · exact a1.elim
end
/-! ### arguments -/
def aNil : En → Hea → Res (List Val) := fun _ h => .ok [] h
def aCons (f : En → Hea → Res Val) (g : En → Hea → Res (List Val)) : En → Hea → Res (List Val) := fun e h => (f e h).bind fun x h1 => (g e h1).bind fun xs h2 => .ok (x :: xs) h2
/-- *e in a display or a call -/
def itemsOf (h : Hea) : Val → Option (List Val)
  | .tup xs => some xs
  | .ref i => lstAt h i
  | _ => none
def aStar (f : En → Hea → Res Val) (g : En → Hea → Res (List Val)) : En → Hea → Res (List Val) := fun e h => (f e h).bind fun x h1 => match itemsOf h1 x with
  | some ys => (g e h1).bind fun xs h2 => .ok (ys ++ xs) h2
  | none => .stuck
section
variable {S : Sy} {W : WX} {σ : St} {H : Hp} {Q : VK}
theorem AftA.bind {ρ : List Addr} {r : Res (List Val)} {k : List Val → Hea → Res Val} {Q : VK} {W : XK} (a : Aft S ρ H (r.bind k) Q W) :
    AftA S ρ H r (fun v H1 => ∃ ρ1 d h1, Go S ρ H ρ1 H1 ∧ Rel S ρ1 h1 H1 ∧ Reps S ρ1 H1 d v ∧ Aft S ρ1 H1 (k d h1) Q W) W := by
  cases r with
  | ok d h => exact fun ρ1 v H1 s R r => ⟨ρ1, d, h, s, R, r, Aft.later (r := k d h) a s⟩
  | exc c d h => exact a
  | stuck => exact a
theorem AftA.mono {ρ : List Addr} {r : Res (List Val)} {Q Q' : List V → Hp → Prop} {W : XK} (a : AftA S ρ H r Q W) (h : ∀ v H', Q v H' → Q' v H') : AftA S ρ H r Q' W := by
  cases r with
  | ok d h' => exact fun ρ1 v H1 s R r => h _ _ (a ρ1 v H1 s R r)
  | exc c d h' => exact a
  | stuck => exact a
theorem AftA.later {ρ ρ1 : List Addr} {H1 : Hp} {r : Res (List Val)} {Q : List V → Hp → Prop} {W : XK} (a : AftA S ρ H r Q W) (s : Go S ρ H ρ1 H1) : AftA S ρ1 H1 r Q W := by
  cases r with
  | ok d h' => exact fun ρ2 v H2 s2 => a ρ2 v H2 (s.trans s2)
  | exc c d h' => exact fun ρ2 v H2 dx s2 => a ρ2 v H2 dx (s.trans s2)
  | stuck => exact a
theorem AftA.bind1 {ρ : List Addr} {r : Res Val} {k : Val → Hea → Res (List Val)} {Q : List V → Hp → Prop} {W : XK} (a : AftA S ρ H (r.bind k) Q W) :
    Aft S ρ H r (fun v H1 => ∃ ρ1 d h1, Go S ρ H ρ1 H1 ∧ Rel S ρ1 h1 H1 ∧ Rep S ρ1 H1 d v ∧ AftA S ρ1 H1 (k d h1) Q W) W := by
  cases r with
  | ok d h => exact fun ρ1 v H1 s R r => ⟨ρ1, d, h, s, R, r, AftA.later (r := k d h) a s⟩
  | exc c d h => exact a
  | stuck => exact a
theorem AftA.bind2 {ρ : List Addr} {r : Res (List Val)} {k : List Val → Hea → Res (List Val)} {Q : List V → Hp → Prop} {W : XK} (a : AftA S ρ H (r.bind k) Q W) :
    AftA S ρ H r (fun v H1 => ∃ ρ1 d h1, Go S ρ H ρ1 H1 ∧ Rel S ρ1 h1 H1 ∧ Reps S ρ1 H1 d v ∧ AftA S ρ1 H1 (k d h1) Q W) W := by
  cases r with
  | ok d h => exact fun ρ1 v H1 s R r => ⟨ρ1, d, h, s, R, r, AftA.later (r := k d h) a s⟩
  | exc c d h => exact a
  | stuck => exact a
end
section
variable {T : Tb} {X : Cx} {W : WX} {a : Expr} {es : List Expr} {f : En → Hea → Res Val} {g : En → Hea → Res (List Val)} {pos : Pos}
theorem sa_nil : SA T X W [] aNil := pa_nil.imp fun σ H Q q => by
  obtain ⟨ρ, e, h, R, E, a⟩ := q
  exact a ρ [] H .rfl R .nil
theorem sa_cons (ha : SE T X W a f) (hr : SA T X W es g) (hs : starEach (a :: es) X.env = (false, eval a X.env) :: starEach es X.env := by rfl) : SA T X W (a :: es) (aCons f g) := (pa_cons ha hr hs).imp fun σ H Q q => by
  obtain ⟨ρ, e, h, R, E, a⟩ := q
  refine ⟨ρ, e, h, R, E, (AftA.bind1 a).mono fun v H1 ⟨ρ1, d, h1, s, R1, r, a1⟩ => ⟨ρ1, e, h1, R1, E.go s, (AftA.bind2 a1).mono fun vs H2 ⟨ρ2, ds, h2, s2, R2, r2, a2⟩ => ?_⟩⟩
  exact a2 ρ2 (v :: vs) H2 .rfl R2 (.cons (r.go s2) r2)
theorem items_sq {S : Sy} {ρ : List Addr} {H : Hp} {h : Hea} {d : Val} {v : V} {ys : List Val} (R : Rel S ρ h H) (r : Rep S ρ H d v) (e : itemsOf h d = some ys) : ∃ p xs, v = .ref p ∧ (SqT S.K H p xs ∨ SqL S.K H p xs) ∧ Reps S ρ H ys xs := by
  unfold itemsOf at e
  split at e
  · cases e
    obtain ⟨p, vs, rfl, s, q⟩ := r.tup_
    exact ⟨p, vs, rfl, .inl s, q⟩
  · obtain ⟨p, rfl, ea⟩ := r.ref_
    obtain ⟨vs, s, q⟩ := R.lst e ea
    exact ⟨p, vs, rfl, .inr s, q⟩
  · cases e
theorem sa_star {p : Pos} (ha : SE T X W a f) (hr : SA T X W es g) : SA T X W (.Starred a p :: es) (aStar f g) := (StX.pa_star ha hr).imp fun σ H Q q => by
  obtain ⟨ρ, e, h, R, E, a⟩ := q
  refine ⟨ρ, e, h, R, E, (AftA.bind1 a).mono fun v H1 ⟨ρ1, d, h1, s, R1, r, a1⟩ => ?_⟩
  split at a1
  · rename_i ys hy
    obtain ⟨p, xs, rfl, sq, q⟩ := items_sq R1 r hy
    refine ⟨p, xs, rfl, sq, ρ1, e, h1, R1, E.go s, (AftA.bind2 a1).mono fun vs H2 ⟨ρ2, ds, h2, s2, R2, r2, a2⟩ => ?_⟩
    exact a2 ρ2 (xs ++ vs) H2 .rfl R2 ((q.go s2).app r2)
  · exact a1.elim
end
/-! ### displays -/
def eTup (g : En → Hea → Res (List Val)) : En → Hea → Res Val := fun e h => (g e h).bind fun xs h1 => if xs.length ≤ 16777216 then .ok (.tup xs) h1 else .stuck
def lDisp (g : En → Hea → Res (List Val)) : En → Hea → Res (List Val) := fun e h => (g e h).bind fun xs h1 => if xs.length ≤ 16777216 then .ok xs h1 else .stuck
/-- a made list is kept -/
def eNew (g : En → Hea → Res (List Val)) : En → Hea → Res Val := fun e h => (g e h).bind fun xs h1 => .ok (.ref h1.length) (h1 ++ [.lst xs])
section
variable {S : Sy} {H : Hp}
theorem AftL.mono {ρ : List Addr} {r : Res (List Val)} {Q Q' : VK} {W : XK} (a : AftL S ρ H r Q W) (h : ∀ v H', Q v H' → Q' v H') : AftL S ρ H r Q' W := by
  cases r with
  | ok d h' => exact fun ρ1 p v H1 s R e n z r => h _ _ (a ρ1 p v H1 s R e n z r)
  | exc c d h' => exact a
  | stuck => exact a
theorem Go.none {ρ ρ1 ρ2 : List Addr} {H1 H2 : Hp} (s : Go S ρ H ρ1 H1) {p : Addr} (n : Off ρ2 p) (s2 : Go S ρ1 H1 ρ2 H2) (z : H1 p = Option.none) : H p = Option.none := by
  cases e : H p with
  | none => rfl
  | some o =>
    have := s.fr p o e fun i w => n i (s2.sub _ _ (s.sub _ _ w))
    rw [z] at this; cases this
theorem Go.adopt {ρ ρ1 : List Addr} {H1 : Hp} (s : Go S ρ H ρ1 H1) {p : Addr} (z : H p = Option.none) : Go S ρ H (ρ1 ++ [p]) H1 := by
  refine ⟨s.sub.trans .app, s.kp, s.fr, fun i a h => ?_⟩
  by_cases hi : i < ρ1.length
  · rw [List.getElem?_append_left hi] at h
    exact s.nw i a h
  · rw [List.getElem?_append_right (Nat.le_of_not_lt hi)] at h
    have := List.mem_of_getElem? h
    simp at this
    subst this
    exact .inr z
theorem AftL.later {ρ ρ1 : List Addr} {H1 : Hp} {r : Res (List Val)} {Q : VK} {W : XK} (a : AftL S ρ H r Q W) (s : Go S ρ H ρ1 H1) : AftL S ρ1 H1 r Q W := by
  cases r with
  | ok d h' => exact fun ρ2 p v H2 s2 R e n z r => a ρ2 p v H2 (s.trans s2) R e n (s.none n s2 z) r
  | exc c d h' => exact fun ρ2 v H2 dx s2 => a ρ2 v H2 dx (s.trans s2)
  | stuck => exact a
/-- behind a made list: another expression goes on with it -/
theorem AftL.bind {ρ : List Addr} {r : Res (List Val)} {k : List Val → Hea → Res Val} {Q : VK} {W : XK} (a : Aft S ρ H (r.bind k) Q W) :
    AftL S ρ H r (fun v H1 => ∃ ρ1 ds h1 p vs, Go S ρ H ρ1 H1 ∧ Rel S ρ1 h1 H1 ∧ v = .ref p ∧ H1 p = some (.lst vs) ∧ Off ρ1 p ∧ H p = none ∧ Reps S ρ1 H1 ds vs ∧ Aft S ρ H (k ds h1) Q W) W := by
  cases r with
  | ok d h => exact fun ρ1 p v H1 s R e n z r => ⟨ρ1, d, h, p, v, s, R, rfl, e, n, z, r, a⟩
  | exc c d h => exact a
  | stuck => exact a
theorem AftA.bindL {ρ : List Addr} {r : Res (List Val)} {k : List Val → Hea → Res (List Val)} {Q : VK} {W : XK} (a : AftL S ρ H (r.bind k) Q W) :
    AftA S ρ H r (fun v H1 => ∃ ρ1 d h1, Go S ρ H ρ1 H1 ∧ Rel S ρ1 h1 H1 ∧ Reps S ρ1 H1 d v ∧ AftL S ρ1 H1 (k d h1) Q W) W := by
  cases r with
  | ok d h => exact fun ρ1 v H1 s R r => ⟨ρ1, d, h, s, R, r, AftL.later (r := k d h) a s⟩
  | exc c d h => exact a
  | stuck => exact a
theorem AftL.bind1 {ρ : List Addr} {r : Res Val} {k : Val → Hea → Res (List Val)} {Q : VK} {W : XK} (a : AftL S ρ H (r.bind k) Q W) :
    Aft S ρ H r (fun v H1 => ∃ ρ1 d h1, Go S ρ H ρ1 H1 ∧ Rel S ρ1 h1 H1 ∧ Rep S ρ1 H1 d v ∧ AftL S ρ1 H1 (k d h1) Q W) W := by
  cases r with
  | ok d h => exact fun ρ1 v H1 s R r => ⟨ρ1, d, h, s, R, r, AftL.later (r := k d h) a s⟩
  | exc c d h => exact a
  | stuck => exact a
/-- a new list that is made now -/
theorem AftL.made {ρ : List Addr} {h : Hea} {xs : List Val} {vs : List V} {Q : VK} {W : XK} (a : AftL S ρ H (.ok xs h) Q W) (R : Rel S ρ h H) (r : Reps S ρ H xs vs) (p : Addr) (n : H p = none) : Q (.ref p) (upd H p (.lst vs)) :=
  a ρ p vs _ (.side n) (R.side n) upd_same (fun i z => R.free n z) n (r.mono .rfl (.new n))
theorem Rel.adopt {ρ : List Addr} {h : Hea} (R : Rel S ρ h H) {p : Addr} {xs : List Val} {vs : List V} (e : H p = some (.lst vs)) (n : Off ρ p) (r : Reps S ρ H xs vs) : Rel S (ρ ++ [p]) (h ++ [.lst xs]) H := by
  have hl := R.len
  refine ⟨by simp [hl], fun i j a e1 e2 => ?_, fun i o' a e1 e2 => ?_⟩
  · by_cases h1 : i < ρ.length
    · rw [List.getElem?_append_left h1] at e1
      by_cases h2 : j < ρ.length
      · rw [List.getElem?_append_left h2] at e2
        exact R.inj i j a e1 e2
      · rw [List.getElem?_append_right (Nat.le_of_not_lt h2)] at e2
        have e3 := (List.mem_of_getElem? e2)
        simp at e3
        subst e3
        exact (n i e1).elim
    · rw [List.getElem?_append_right (Nat.le_of_not_lt h1)] at e1
      have e3 := (List.getElem?_eq_some_iff.mp e1).1
      have e4 := (List.mem_of_getElem? e1)
      simp at e3 e4
      subst e4
      by_cases h2 : j < ρ.length
      · rw [List.getElem?_append_left h2] at e2
        exact (n j e2).elim
      · rw [List.getElem?_append_right (Nat.le_of_not_lt h2)] at e2
        have e5 := (List.getElem?_eq_some_iff.mp e2).1
        simp at e5
        omega
  · by_cases h1 : i < ρ.length
    · rw [List.getElem?_append_left h1] at e2
      rw [List.getElem?_append_left (by omega)] at e1
      exact (R.ob i o' a e1 e2).mono .app .rfl rfl
    · rw [List.getElem?_append_right (Nat.le_of_not_lt h1)] at e2
      rw [List.getElem?_append_right (by omega)] at e1
      have e3 := (List.mem_of_getElem? e2)
      have e4 := (List.mem_of_getElem? e1)
      simp at e3 e4
      subst e3 e4
      exact .lst e (r.mono .app .rfl)
end
section
variable {T : Tb} {X : Cx} {W : WX} {a : Expr} {es : List Expr} {f : En → Hea → Res Val} {g : En → Hea → Res (List Val)} {pos : Pos}
theorem se_tup {x1} (h : SA T X W es g) : SE T X W (.Tuple es x1 pos) (eTup g) := (pe_tup h).imp fun σ H Q q => by
  obtain ⟨ρ, e, h, R, E, a⟩ := q
  refine ⟨ρ, e, h, R, E, (AftA.bind a).mono fun vs H1 ⟨ρ1, ds, h1, s, R1, r, a1⟩ => ?_⟩
  have l := r.length
  split at a1
  · exact ⟨by rw [sizeLine_eq]; omega, fun p n => a1.tup R1 r p n⟩
  · exact a1.elim
theorem sl_lst (h : SA T X W es g) : SL T X W (.List es pos) (lDisp g) := (pe_lst h).imp fun σ H Q q => by
  obtain ⟨ρ, e, h, R, E, a⟩ := q
  refine ⟨ρ, e, h, R, E, (AftA.bindL a).mono fun vs H1 ⟨ρ1, ds, h1, s, R1, r, a1⟩ => ?_⟩
  have l := r.length
  split at a1
  · exact ⟨by rw [sizeLine_eq]; omega, fun p n => a1.made R1 r p n⟩
  · exact a1.elim
theorem se_new (h : SL T X W a g) : SE T X W a (eNew g) := h.imp fun σ H Q q => by
  obtain ⟨ρ, e, h, R, E, a⟩ := q
  refine ⟨ρ, e, h, R, E, (AftL.bind a).mono fun v H1 ⟨ρ1, ds, h1, p, vs, s, R1, ev, el, n, z, r, a1⟩ => ?_⟩
  subst ev
  exact a1 (ρ1 ++ [p]) (.ref p) H1 (s.adopt z) (R1.adopt el n r) (.ref (by rw [R1.len]; simp))
end
end Lad
end
/-! ## LadBi -/
section
set_option maxRecDepth 100000
set_option maxHeartbeats 1000000
namespace Lad
open PySem L2
/-! ### calls of built-ins by values -/
def rC (S : Sy) (g : Hea → List Val → Option Val) : List V → Hp → VK → Prop := fun vs H Q => ∃ ρ h ds, Rel S ρ h H ∧ Reps S ρ H ds vs ∧ Aft S ρ H (opt (g h ds) h) Q (fun _ _ _ => False)
/-- of one list or tuple, by its items -/
def rIt (S : Sy) (g : List Val → Option Val) : List V → Hp → VK → Prop := fun vs H Q => ∃ ρ h xs us p, Rel S ρ h H ∧ vs = [.ref p] ∧ (SqL S.K H p us ∨ SqT S.K H p us) ∧ Reps S ρ H xs us ∧ Aft S ρ H (opt (g xs) h) Q (fun _ _ _ => False)
/-- of one list -/
def rIl (S : Sy) (g : List Val → Option Val) : List V → Hp → VK → Prop := fun vs H Q => ∃ ρ h xs us p, Rel S ρ h H ∧ vs = [.ref p] ∧ SqL S.K H p us ∧ Reps S ρ H xs us ∧ Aft S ρ H (opt (g xs) h) Q (fun _ _ _ => False)
def eCB (g : Hea → List Val → Option Val) (as : En → Hea → Res (List Val)) : En → Hea → Res Val := fun e h => (as e h).bind fun ds h1 => opt (g h1 ds) h1
/-- the argument is a value -/
def eIt (g : List Val → Option Val) (f : En → Hea → Res Val) : En → Hea → Res Val := fun e h => (f e h).bind fun d h1 => match itemsOf h1 d with
  | some xs => opt (g xs) h1
  | none => .stuck
def eIl (g : List Val → Option Val) (f : En → Hea → Res Val) : En → Hea → Res Val := fun e h => (f e h).bind fun d h1 => match d with
  | .ref i => match lstAt h1 i with
    | some xs => opt (g xs) h1
    | none => .stuck
  | _ => .stuck
/-- the argument is a list made for it -/
def eItL (g : List Val → Option Val) (f : En → Hea → Res (List Val)) : En → Hea → Res Val := fun e h => (f e h).bind fun xs h1 => opt (g xs) h1
theorem CallR.imp {X : Cx} {f : Value} {r r' : List V → Hp → VK → Prop} (p : CallR X f r) (h : ∀ vs H Q, r' vs H Q → r vs H Q) : CallR X f r' := fun pins s σ H vs us Q I rx q => p pins s σ H vs us Q I rx (h vs H Q q)
section
variable {T : Tb} {X : Cx} {W : WX} {a : Expr} {es : List Expr} {f : En → Hea → Res Val} {g : En → Hea → Res (List Val)} {pos : Pos}
theorem cb_imp {r : Hea → List Val → Option Val} {σ : St} {H : Hp} {Q : VK} (q : tE (sy T X) W (eCB r g) σ H Q) : tCB (rC (sy T X) r) (tA (sy T X) W g) σ H Q := by
  obtain ⟨ρ, e, h, R, E, a⟩ := q
  exact ⟨ρ, e, h, R, E, (AftA.bind a).mono fun vs H1 ⟨ρ1, ds, h1, s, R1, r1, a1⟩ => ⟨ρ1, h1, ds, R1, r1, a1.noW⟩⟩
theorem it_imp {r : List Val → Option Val} {σ : St} {H : Hp} {Q : VK} (q : tE (sy T X) W (eIt r f) σ H Q) : tCB (rIt (sy T X) r) (tCons (tE (sy T X) W f) tNil) σ H Q := by
  obtain ⟨ρ, e, h, R, E, a⟩ := q
  refine ⟨ρ, e, h, R, E, a.bind.mono fun v H1 ⟨ρ1, d, h1, s, R1, r1, a1⟩ => ?_⟩
  split at a1
  · rename_i xs hx
    obtain ⟨p, us, rfl, sq, rr⟩ := items_sq R1 r1 hx
    exact ⟨ρ1, h1, xs, us, p, R1, rfl, sq.symm, rr, a1.noW⟩
  · exact a1.elim
theorem il_imp {r : List Val → Option Val} {σ : St} {H : Hp} {Q : VK} (q : tE (sy T X) W (eIl r f) σ H Q) : tCB (rIl (sy T X) r) (tCons (tE (sy T X) W f) tNil) σ H Q := by
  obtain ⟨ρ, e, h, R, E, a⟩ := q
  refine ⟨ρ, e, h, R, E, a.bind.mono fun v H1 ⟨ρ1, d, h1, s, R1, r1, a1⟩ => ?_⟩
  split at a1
  · split at a1
    · rename_i xs hx
      obtain ⟨p, rfl, ea⟩ := r1.ref_
      obtain ⟨us, sq, rr⟩ := R1.lst hx ea
      exact ⟨ρ1, h1, xs, us, p, R1, rfl, sq, rr, a1.noW⟩
    · exact a1.elim
  · exact a1.elim
theorem itL_imp {r : List Val → Option Val} {σ : St} {H : Hp} {Q : VK} (q : tE (sy T X) W (eItL r g) σ H Q) : tCB (rIt (sy T X) r) (tCons (tL (sy T X) W g) tNil) σ H Q := by
  obtain ⟨ρ, e, h, R, E, a⟩ := q
  refine ⟨ρ, e, h, R, E, (AftL.bind a).mono fun v H1 ⟨ρ1, ds, h1, p, vs, s, R1, ev, el, n, z, r1, a1⟩ => ?_⟩
  subst ev
  exact ⟨ρ1, h1, ds, vs, p, R1, rfl, .inl (.inl (.inl el)), r1, (a1.later s).noW⟩
theorem ilL_imp {r : List Val → Option Val} {σ : St} {H : Hp} {Q : VK} (q : tE (sy T X) W (eItL r g) σ H Q) : tCB (rIl (sy T X) r) (tCons (tL (sy T X) W g) tNil) σ H Q := by
  obtain ⟨ρ, e, h, R, E, a⟩ := q
  refine ⟨ρ, e, h, R, E, (AftL.bind a).mono fun v H1 ⟨ρ1, ds, h1, p, vs, s, R1, ev, el, n, z, r1, a1⟩ => ?_⟩
  subst ev
  exact ⟨ρ1, h1, ds, vs, p, R1, rfl, .inl (.inl el), r1, (a1.later s).noW⟩
end
def ints? : List Val → Option (List Int)
  | [] => some []
  | .int i :: xs => (ints? xs).map (i :: ·)
  | _ => none
def bls? : List Val → Option (List Bool)
  | [] => some []
  | .bl i :: xs => (bls? xs).map (i :: ·)
  | _ => none
theorem ints_eq : ∀ {xs : List Val} {ns : List Int}, ints? xs = some ns → xs = ns.map Val.int
  | [], ns, e => by cases e; rfl
  | .int i :: xs, ns, e => by
    simp only [ints?] at e
    cases q : ints? xs with
    | none => rw [q] at e; cases e
    | some ms => rw [q] at e; cases e; rw [ints_eq q]; rfl
  | .non :: _, _, e => by cases e
  | .bl _ :: _, _, e => by cases e
  | .str _ :: _, _, e => by cases e
  | .tup _ :: _, _, e => by cases e
  | .ref _ :: _, _, e => by cases e
  | .exn _ _ :: _, _, e => by cases e
theorem bls_eq : ∀ {xs : List Val} {ns : List Bool}, bls? xs = some ns → xs = ns.map Val.bl
  | [], ns, e => by cases e; rfl
  | .bl i :: xs, ns, e => by
    simp only [bls?] at e
    cases q : bls? xs with
    | none => rw [q] at e; cases e
    | some ms => rw [q] at e; cases e; rw [bls_eq q]; rfl
  | .non :: _, _, e => by cases e
  | .int _ :: _, _, e => by cases e
  | .str _ :: _, _, e => by cases e
  | .tup _ :: _, _, e => by cases e
  | .ref _ :: _, _, e => by cases e
  | .exn _ _ :: _, _, e => by cases e
theorem Reps.bls {S : Sy} {ρ : List Addr} {H : Hp} : ∀ {ns : List Bool} {vs : List V}, Reps S ρ H (ns.map Val.bl) vs → vs = ns.map V.bl
  | [], _, .nil => rfl
  | n :: ns, _, .cons r t => by
    cases r
    rw [Reps.bls t]
    rfl
def iMax : List Int → Option Int
  | [] => none
  | n :: ns => some (ns.foldl (fun a b => if b > a then b else a) n)
def iMin : List Int → Option Int
  | [] => none
  | n :: ns => some (ns.foldl (fun a b => if b < a then b else a) n)
theorem foldMax : ∀ (ns : List Int) (n : Int), (ns.foldl (fun a b => if b > a then b else a) n = n ∨ ns.foldl (fun a b => if b > a then b else a) n ∈ ns) ∧ n ≤ ns.foldl (fun a b => if b > a then b else a) n ∧ ∀ y ∈ ns, y ≤ ns.foldl (fun a b => if b > a then b else a) n
  | [], n => ⟨.inl rfl, Int.le_refl _, fun _ h => nomatch h⟩
  | m :: ns, n => by
    obtain ⟨h1, h2, h3⟩ := foldMax ns (if m > n then m else n)
    simp only [List.foldl_cons]
    by_cases c : m > n
    · rw [if_pos c] at h1 h2 h3 ⊢
      refine ⟨.inr ?_, by omega, fun y hy => ?_⟩
      · rcases h1 with e | e
        · rw [e]; exact List.mem_cons_self
        · exact List.mem_cons_of_mem _ e
      · rcases List.mem_cons.mp hy with rfl | hy
        · exact h2
        · exact h3 y hy
    · rw [if_neg c] at h1 h2 h3 ⊢
      refine ⟨?_, h2, fun y hy => ?_⟩
      · rcases h1 with e | e
        · exact .inl e
        · exact .inr (List.mem_cons_of_mem _ e)
      · rcases List.mem_cons.mp hy with rfl | hy
        · omega
        · exact h3 y hy
theorem foldMin : ∀ (ns : List Int) (n : Int), (ns.foldl (fun a b => if b < a then b else a) n = n ∨ ns.foldl (fun a b => if b < a then b else a) n ∈ ns) ∧ ns.foldl (fun a b => if b < a then b else a) n ≤ n ∧ ∀ y ∈ ns, ns.foldl (fun a b => if b < a then b else a) n ≤ y
  | [], n => ⟨.inl rfl, Int.le_refl _, fun _ h => nomatch h⟩
  | m :: ns, n => by
    obtain ⟨h1, h2, h3⟩ := foldMin ns (if m < n then m else n)
    simp only [List.foldl_cons]
    by_cases c : m < n
    · rw [if_pos c] at h1 h2 h3 ⊢
      refine ⟨.inr ?_, by omega, fun y hy => ?_⟩
      · rcases h1 with e | e
        · rw [e]; exact List.mem_cons_self
        · exact List.mem_cons_of_mem _ e
      · rcases List.mem_cons.mp hy with rfl | hy
        · exact h2
        · exact h3 y hy
    · rw [if_neg c] at h1 h2 h3 ⊢
      refine ⟨?_, h2, fun y hy => ?_⟩
      · rcases h1 with e | e
        · exact .inl e
        · exact .inr (List.mem_cons_of_mem _ e)
      · rcases List.mem_cons.mp hy with rfl | hy
        · omega
        · exact h3 y hy
theorem iMax_ok {ns : List Int} {m : Int} (e : iMax ns = some m) : m ∈ ns ∧ ∀ y ∈ ns, y ≤ m := by
  cases ns with
  | nil => cases e
  | cons n ns =>
    cases e
    obtain ⟨h1, h2, h3⟩ := foldMax ns n
    refine ⟨?_, fun y hy => ?_⟩
    · rcases h1 with e | e
      · rw [e]; exact List.mem_cons_self
      · exact List.mem_cons_of_mem _ e
    · rcases List.mem_cons.mp hy with rfl | hy
      · exact h2
      · exact h3 y hy
theorem iMin_ok {ns : List Int} {m : Int} (e : iMin ns = some m) : m ∈ ns ∧ ∀ y ∈ ns, m ≤ y := by
  cases ns with
  | nil => cases e
  | cons n ns =>
    cases e
    obtain ⟨h1, h2, h3⟩ := foldMin ns n
    refine ⟨?_, fun y hy => ?_⟩
    · rcases h1 with e | e
      · rw [e]; exact List.mem_cons_self
      · exact List.mem_cons_of_mem _ e
    · rcases List.mem_cons.mp hy with rfl | hy
      · exact h2
      · exact h3 y hy
def gLen (xs : List Val) : Option Val := some (.int xs.length)
def gAll (xs : List Val) : Option Val := (bls? xs).map fun bs => .bl (bs.all id)
def gAny (xs : List Val) : Option Val := (bls? xs).map fun bs => .bl (bs.any id)
def gSum (xs : List Val) : Option Val := (ints? xs).map fun ns => .int ns.sum
def gMax (xs : List Val) : Option Val := ((ints? xs).bind iMax).map .int
def gMin (xs : List Val) : Option Val := ((ints? xs).bind iMin).map .int
def gTuple (xs : List Val) : Option Val := some (.tup xs)
def gAbs : Hea → List Val → Option Val
  | _, [.int i] => some (.int (if i < 0 then -i else i))
  | _, _ => none
def gMax2 : Hea → List Val → Option Val
  | _, [.int i, .int j] => some (.int (if j > i then j else i))
  | _, _ => none
def gMin2 : Hea → List Val → Option Val
  | _, [.int i, .int j] => some (.int (if j < i then j else i))
  | _, _ => none
def gInt : Hea → List Val → Option Val
  | _, [.int i] => some (.int i)
  | _, [.bl k] => some (.int (if k then 1 else 0))
  | _, _ => none
def gRepr : Hea → List Val → Option Val
  | _, [.int i] => if i.natAbs.log2 < 1920 then some (.str (toString i)) else none
  | _, _ => none
section
variable {T : Tb} {X : Cx}
theorem g_len : CallR X (.builtin "len") (rIt (sy T X) gLen) := CallR.imp call_len_seq fun vs H Q h => by
  obtain ⟨ρ, h, xs, us, p, R, rfl, sq, r, a⟩ := h
  refine ⟨p, us, rfl, sq, ?_⟩
  rw [← r.length]
  exact a.same R (.int _)
theorem g_all (hc : X.calm = true) : CallR X (.builtin "all") (rIl (sy T X) gAll) := CallR.imp (cr_all hc) fun vs H Q h => by
  obtain ⟨ρ, h, xs, us, p, R, rfl, sq, r, a⟩ := h
  unfold gAll at a
  cases e : bls? xs with
  | none => rw [e] at a; exact a.elim
  | some bs =>
    rw [e] at a
    obtain rfl := bls_eq e
    obtain rfl := r.bls
    exact ⟨p, bs, rfl, sq, Aft.same (d := .bl _) a R (.bl _)⟩
theorem g_any (hc : X.calm = true) : CallR X (.builtin "any") (rIl (sy T X) gAny) := CallR.imp (cr_any hc) fun vs H Q h => by
  obtain ⟨ρ, h, xs, us, p, R, rfl, sq, r, a⟩ := h
  unfold gAny at a
  cases e : bls? xs with
  | none => rw [e] at a; exact a.elim
  | some bs =>
    rw [e] at a
    obtain rfl := bls_eq e
    obtain rfl := r.bls
    exact ⟨p, bs, rfl, sq, Aft.same (d := .bl _) a R (.bl _)⟩
theorem g_sum (hc : X.calm = true) : CallR X (.builtin "sum") (rIl (sy T X) gSum) := CallR.imp (cr_sum hc) fun vs H Q h => by
  obtain ⟨ρ, h, xs, us, p, R, rfl, sq, r, a⟩ := h
  unfold gSum at a
  cases e : ints? xs with
  | none => rw [e] at a; exact a.elim
  | some bs =>
    rw [e] at a
    obtain rfl := ints_eq e
    obtain rfl := r.ints
    exact ⟨p, bs, rfl, sq, Aft.same (d := .int _) a R (.int _)⟩
theorem g_max (hc : X.calm = true) : CallR X (.builtin "max") (rIl (sy T X) gMax) := CallR.imp (cr_max hc) fun vs H Q h => by
  obtain ⟨ρ, h, xs, us, p, R, rfl, sq, r, a⟩ := h
  unfold gMax at a
  cases e : ints? xs with
  | none => rw [e] at a; exact a.elim
  | some bs =>
    rw [e] at a
    cases e2 : iMax bs with
    | none => simp [e2, opt, Aft] at a
    | some m =>
      simp only [Option.bind_some, e2, Option.map_some] at a
      obtain rfl := ints_eq e
      obtain rfl := r.ints
      obtain ⟨h1, h2⟩ := iMax_ok e2
      refine ⟨p, bs, rfl, sq, List.length_pos_of_mem h1, fun m' h1' h2' => ?_⟩
      have : m' = m := Int.le_antisymm (h2 _ h1') (h2' _ h1)
      subst this
      exact Aft.same (d := .int _) a R (.int _)
theorem g_min (hc : X.calm = true) : CallR X (.builtin "min") (rIl (sy T X) gMin) := CallR.imp (cr_min hc) fun vs H Q h => by
  obtain ⟨ρ, h, xs, us, p, R, rfl, sq, r, a⟩ := h
  unfold gMin at a
  cases e : ints? xs with
  | none => rw [e] at a; exact a.elim
  | some bs =>
    rw [e] at a
    cases e2 : iMin bs with
    | none => simp [e2, opt, Aft] at a
    | some m =>
      simp only [Option.bind_some, e2, Option.map_some] at a
      obtain rfl := ints_eq e
      obtain rfl := r.ints
      obtain ⟨h1, h2⟩ := iMin_ok e2
      refine ⟨p, bs, rfl, sq, List.length_pos_of_mem h1, fun m' h1' h2' => ?_⟩
      have : m' = m := Int.le_antisymm (h2' _ h1) (h2 _ h1')
      subst this
      exact Aft.same (d := .int _) a R (.int _)
theorem g_tuple : CallR X (.type "tuple") (rIt (sy T X) gTuple) := CallR.imp call_tuple_of fun vs H Q h => by
  obtain ⟨ρ, h, xs, us, p, R, rfl, sq, r, a⟩ := h
  refine ⟨p, us, rfl, ?_⟩
  rcases sq with sq | sq
  · exact .inl ⟨sq, fun l n => Aft.tup a R r l n⟩
  · exact .inr ⟨sq, Aft.same a R (.tup sq r)⟩
theorem g_abs : CallR X (.builtin "abs") (rC (sy T X) gAbs) := CallR.imp call_abs fun vs H Q h => by
  obtain ⟨ρ, h, ds, R, r, a⟩ := h
  unfold gAbs at a
  split at a
  · obtain rfl := Reps.ints (ns := [_]) r
    exact ⟨_, rfl, Aft.same (d := .int _) a R (.int _)⟩
  · exact a.elim
theorem g_max2 (hc : X.calm = true) : CallR X (.builtin "max") (rC (sy T X) gMax2) := CallR.imp (call_max2 hc) fun vs H Q h => by
  obtain ⟨ρ, h, ds, R, r, a⟩ := h
  unfold gMax2 at a
  split at a
  · obtain rfl := Reps.ints (ns := [_, _]) r
    exact ⟨_, _, rfl, Aft.same (d := .int _) a R (.int _)⟩
  · exact a.elim
theorem g_min2 (hc : X.calm = true) : CallR X (.builtin "min") (rC (sy T X) gMin2) := CallR.imp (call_min2 hc) fun vs H Q h => by
  obtain ⟨ρ, h, ds, R, r, a⟩ := h
  unfold gMin2 at a
  split at a
  · obtain rfl := Reps.ints (ns := [_, _]) r
    exact ⟨_, _, rfl, Aft.same (d := .int _) a R (.int _)⟩
  · exact a.elim
theorem g_int : CallR X (.type "int") (rC (sy T X) gInt) := CallR.imp call_int1 fun vs H Q h => by
  obtain ⟨ρ, h, ds, R, r, a⟩ := h
  unfold gInt at a
  split at a
  · obtain rfl := Reps.ints (ns := [_]) r
    exact .inl ⟨_, rfl, Aft.same (d := .int _) a R (.int _)⟩
  · obtain rfl := Reps.bls (ns := [_]) r
    exact .inr ⟨_, rfl, Aft.same (d := .int _) a R (.int _)⟩
  · exact a.elim
theorem g_repr : CallR X (.builtin "repr") (rC (sy T X) gRepr) := CallR.imp SkE.call_repr_int fun vs H Q h => by
  obtain ⟨ρ, h, ds, R, r, a⟩ := h
  unfold gRepr at a
  split at a
  · split at a
    · rename_i hl
      obtain rfl := Reps.ints (ns := [_]) r
      exact ⟨_, rfl, hl, Aft.same (d := .str _) a R (.str _)⟩
    · exact a.elim
  · exact a.elim
end
/-! ### isinstance with built-in classes -/
inductive BT where
  | int | bool | str | tuple | list | dict
def BT.nm : BT → String
  | .int => "int" | .bool => "bool" | .str => "str" | .tuple => "tuple" | .list => "list" | .dict => "dict"
inductive TK where
  | non | bool | int | str | tuple | list | dict
def TK.nm : TK → String
  | .non => "NoneType" | .bool => "bool" | .int => "int" | .str => "str" | .tuple => "tuple" | .list => "list" | .dict => "dict"
def isTB : TK → BT → Bool
  | .bool, .bool | .bool, .int | .int, .int | .str, .str | .tuple, .tuple | .list, .list | .dict, .dict => true
  | _, _ => false
theorem kit_tb (k : TK) (b : BT) : kitB k.nm b.nm = some (isTB k b) := by
  cases k <;> cases b <;> decide +kernel
def tyK (h : Hea) : Val → Option TK
  | .non => some .non
  | .bl _ => some .bool
  | .int _ => some .int
  | .str _ => some .str
  | .tup _ => some .tuple
  | .ref i => match h[i]? with
    | some (.lst _) => some .list
    | some (.fro _) => some .list
    | some (.dcK _) => some .dict
    | some (.dcT _) => some .dict
    | _ => none
  | .exn _ _ => none
theorem tyK_ok {S : Sy} {ρ : List Addr} {H : Hp} {h : Hea} {d : Val} {v : V} {k : TK} (R : Rel S ρ h H) (r : Rep S ρ H d v) (e : tyK h d = some k) : TyX S.K H v (.type k.nm) := by
  cases r with
  | non => cases e; exact .base .non
  | bl b => cases e; exact .base (.bl b)
  | int b => cases e; exact .base (.int b)
  | str b => cases e; exact .base (.str b)
  | tup s q =>
    cases e
    rcases s with (s | ⟨o, s⟩) | ⟨o, its, n, s, c, _⟩
    · exact .base (.tup s)
    · exact .fTuple s
    · exact .kTuple s c
  | ref ea =>
    unfold tyK at e
    dsimp only at e
    split at e
    · rename_i xs hx
      cases e
      have o := R.ob _ _ _ hx ea
      cases o with
      | lst h1 h2 => exact .base (.lst h1)
    · rename_i xs hx
      cases e
      have o := R.ob _ _ _ hx ea
      cases o with
      | fro h1 h2 => exact .base (.frz h1)
    · rename_i xs hx
      cases e
      have o := R.ob _ _ _ hx ea
      cases o with
      | dcK h1 h2 => exact .base (.dK h1)
    · rename_i xs hx
      cases e
      have o := R.ob _ _ _ hx ea
      cases o with
      | dcT h1 h2 => exact .base (.dT h1)
    · cases e
  | exn h1 h2 r => cases e
def oIsi (ts : List BT) (h : Hea) (d : Val) : Option Val := (tyK h d).map fun k => .bl (ts.any (isTB k))
section
variable {T : Tb} {X : Cx} {W : WX} {a : Expr} {f : En → Hea → Res Val} {pos p p1 p2 p3 : Pos}
theorem se_isi {b : BT} {x : Str} (hg : Gl X "isinstance") (hm : X.mg "isinstance" = none) (ha : SE T X W a f) (hb : PE X (.Name x p1) (tC (.ty b.nm))) (hs : starEach (a :: [.Name x p1]) X.env = (false, eval a X.env) :: starEach [.Name x p1] X.env := by rfl) :
    SE T X W (.Call (.Name "isinstance" p) [a, .Name x p1] [] pos) (eUn (oIsi [b]) f) := by
  refine PE.imp (pe_callB call_isi hg hm (by decide +kernel) (pa_cons ha (pa_cons hb pa_nil) hs) (he := hs)) fun σ H Q q => ?_
  obtain ⟨ρ, e, h, R, E, a⟩ := tE.bind (f := f) (g := fun e x h1 => opt (oIsi [b] h1 x) h1) q
  refine ⟨ρ, e, h, R, E, a.mono fun v H1 ⟨ρ1, e1, d1, h1, b1, a1⟩ => ?_⟩
  obtain ⟨R1, E1, r1⟩ := b1
  show rIsi X.K [v, .ty b.nm] H1 Q
  unfold oIsi at a1
  cases hk : tyK h1 d1 with
  | none => rw [hk] at a1; exact a1.elim
  | some k =>
    rw [hk] at a1
    refine ⟨v, _, _, _, isTB k b, rfl, .ty _, tyK_ok R1 r1 hk, kit_ty (kit_tb k b), ?_⟩
    have q := Aft.same (d := .bl _) a1 R1 (.bl _)
    simpa using q
theorem kitAny_tb {K : PySem.W.Frag} (k : TK) : ∀ bs : List BT, PySem.W.kitAny K (.type k.nm) (bs.map fun b => Value.type b.nm) = some (bs.any (isTB k))
  | [] => rfl
  | b :: bs => by
    have h := kit_ty (K := K) (kit_tb k b)
    simp only [List.map_cons, PySem.W.kitAny, h, List.any_cons]
    cases isTB k b with
    | true => rfl
    | false => simpa using kitAny_tb k bs
/-- isinstance(x, (A, B)) -/
theorem se_isi2 {b c : BT} {x y : Str} {x1} (hg : Gl X "isinstance") (hm : X.mg "isinstance" = none) (ha : SE T X W a f) (hb : PE X (.Name x p1) (tC (.ty b.nm))) (hc : PE X (.Name y p2) (tC (.ty c.nm)))
    (hs : starEach (a :: [.Tuple [.Name x p1, .Name y p2] x1 p3]) X.env = (false, eval a X.env) :: starEach [.Tuple [.Name x p1, .Name y p2] x1 p3] X.env := by rfl) :
    SE T X W (.Call (.Name "isinstance" p) [a, .Tuple [.Name x p1, .Name y p2] x1 p3] [] pos) (eUn (oIsi [b, c]) f) := by
  refine PE.imp (pe_callB call_isiT hg hm (by decide +kernel) (pa_cons ha (pa_cons (pe_tup (pa_cons hb (pa_cons hc pa_nil))) pa_nil) hs) (he := hs)) fun σ H Q q => ?_
  obtain ⟨ρ, e, h, R, E, a⟩ := tE.bind (f := f) (g := fun e x h1 => opt (oIsi [b, c] h1 x) h1) q
  refine ⟨ρ, e, h, R, E, a.mono fun v H1 ⟨ρ1, e1, d1, h1, b1, a1⟩ => ?_⟩
  obtain ⟨R1, E1, r1⟩ := b1
  refine ⟨by rw [sizeLine_eq]; exact (by decide : 2 ≤ 16777216), fun tp n => ?_⟩
  show rIsiT X.K [v, .ref tp] _ Q
  unfold oIsi at a1
  cases hk : tyK h1 d1 with
  | none => rw [hk] at a1; exact a1.elim
  | some k =>
    rw [hk] at a1
    have kp : Kp (sy T X) H1 (upd H1 tp (.tup [.ty b.nm, .ty c.nm])) := .new n
    refine ⟨v, tp, [.ty b.nm, .ty c.nm], _, [b, c].map fun b => Value.type b.nm, [b, c].any (isTB k), rfl, upd_same, .cons (.ty _) (.cons (.ty _) .nil), tyK_ok (R1.side n) (r1.mono .rfl kp) hk, kitAny_tb k _, ?_⟩
    exact a1 ρ1 _ _ (.side n) (R1.side n) (.bl _)
end
/-! ### subscripts -/
def oIx (h : Hea) (a b : Val) : Option Val := match b with
  | .int i => match itemsOf h a with
    | some xs => atI xs i
    | none => match a with
      | .str z => if z.length ≤ 16777216 then (atI z.cps.toList i).map fun c => .str ⟨#[c]⟩ else none
      | _ => none
  | _ => none
theorem Reps.atI {S : Sy} {ρ : List Addr} {H : Hp} {xs : List Val} {vs : List V} {i : Int} {d : Val} (r : Reps S ρ H xs vs) (e : atI xs i = some d) : ∃ v, L2.atI vs i = some v ∧ Rep S ρ H d v := by
  unfold L2.atI at e ⊢
  rw [← r.length]
  cases q : ixN xs.length i with
  | none => rw [q] at e; cases e
  | some j =>
    rw [q] at e
    exact r.get e
section
variable {T : Tb} {X : Cx} {W : WX} {a b : Expr} {f1 f2 : En → Hea → Res Val} {pos p p1 p2 p3 : Pos}
theorem IxR.imp {r r' : R2} (p : IxR X r) (h : ∀ x y H Q, r' x y H Q → r x y H Q) : IxR X r' := fun value slice pins s σ H x y v u Q I rx ry q e => p value slice pins s σ H x y v u Q I rx ry (h x y H Q q) e
theorem o_ix : IxR X (rB (sy T X) oIx) := IxR.imp (IxR.or ix_list (IxR.or ix_tup ix_str)) fun x y H Q h => by
  obtain ⟨ρ, h, d1, d2, R, r1, r2, a⟩ := h
  cases d2 with
  | int i =>
    obtain rfl := r2.int_
    simp only [oIx] at a
    cases hx : itemsOf h d1 with
    | some xs =>
      rw [hx] at a
      obtain ⟨p, us, rfl, sq, rr⟩ := items_sq R r1 hx
      cases e : L2.atI xs i with
      | none => simp only [e] at a; exact a.elim
      | some d =>
        simp only [e] at a
        obtain ⟨v, e1, r⟩ := rr.atI e
        rcases sq with sq | sq
        · exact .inr (.inl ⟨p, us, i, v, rfl, rfl, sq, e1, Aft.same (d := d) a R r⟩)
        · exact .inl ⟨p, us, i, v, rfl, rfl, sq, e1, Aft.same (d := d) a R r⟩
    | none =>
      rw [hx] at a
      cases d1 with
      | str z =>
        obtain rfl := r1.str_
        simp only at a
        split at a
        · rename_i hz
          cases e : L2.atI z.cps.toList i with
          | none => rw [e] at a; exact a.elim
          | some c =>
            rw [e] at a
            exact .inr (.inr ⟨z, i, c, rfl, rfl, by rw [sizeLine_eq]; exact hz, e, Aft.same (d := .str _) a R (.str _)⟩)
        · exact a.elim
      | _ => exact a.elim
  | _ => exact a.elim
theorem se_ix (ha : SE T X W a f1) (hb : SE T X W b f2) (hs : PlainIx b := by intro _ _; rfl) : SE T X W (.Subscript a b pos) (eBin oIx f1 f2) := (pe_ix o_ix ha hb hs).imp fun σ H Q q => bin_imp q
end
end Lad
end
/-! ## LadSt -/
section
set_option maxRecDepth 100000
set_option maxHeartbeats 1000000
namespace Lad
open PySem L2
abbrev SSt (T : Tb) (X : Cx) (W : WX) (s : Stmt) (f : En → Hea → SRes) : Prop := PS X s (tS (sy T X) W f)
abbrev SSs (T : Tb) (X : Cx) (W : WX) (s : List Stmt) (f : En → Hea → SRes) : Prop := PSs X s (tS (sy T X) W f)
/-! ### statements -/
def ofR {α : Type} (r : Res α) (e : En) (k : α → Hea → SRes) : SRes := match r with
  | .ok a h => k a h
  | .exc c d h => .exc c d e h
  | .stuck => .stuck
section
variable {S : Sy} {W : WX} {H : Hp} {D : Ends} {ρ : List Addr} {σ : St} {e : En}
theorem AftS.ofR {r : Res Val} {k : Val → Hea → SRes} (a : AftS S ρ H (ofR r e k) D W) (E : ER S ρ H e σ) :
    Aft S ρ H r (fun v H1 => ∃ ρ1 d h1, Go S ρ H ρ1 H1 ∧ Rel S ρ1 h1 H1 ∧ Rep S ρ1 H1 d v ∧ ER S ρ1 H1 e σ ∧ AftS S ρ1 H1 (k d h1) D W) (fun c d H' => W c d σ H') := by
  cases r with
  | ok d h => exact fun ρ1 v H1 s R r => ⟨ρ1, d, h, s, R, r, E.go s, AftS.later (r := k d h) a s⟩
  | exc c d h => exact fun ρ1 v H1 dx s R r x => a ρ1 v σ H1 dx s R r (E.go s) x
  | stuck => exact a
theorem AftS.ofA {r : Res (List Val)} {k : List Val → Hea → SRes} (a : AftS S ρ H (Lad.ofR r e k) D W) (E : ER S ρ H e σ) :
    AftA S ρ H r (fun v H1 => ∃ ρ1 d h1, Go S ρ H ρ1 H1 ∧ Rel S ρ1 h1 H1 ∧ Reps S ρ1 H1 d v ∧ ER S ρ1 H1 e σ ∧ AftS S ρ1 H1 (k d h1) D W) (fun c d H' => W c d σ H') := by
  cases r with
  | ok d h => exact fun ρ1 v H1 s R r => ⟨ρ1, d, h, s, R, r, E.go s, AftS.later (r := k d h) a s⟩
  | exc c d h => exact fun ρ1 v H1 dx s R r x => a ρ1 v σ H1 dx s R r (E.go s) x
  | stuck => exact a
end
def sNil : En → Hea → SRes := fun e h => .nx e h
def sSeq (f g : En → Hea → SRes) : En → Hea → SRes := fun e h => match f e h with
  | .nx e1 h1 => g e1 h1
  | r => r
def sSet (i : Nat) (f : En → Hea → Res Val) : En → Hea → SRes := fun e h => ofR (f e h) e fun d h1 => .nx (e.set i (some d)) h1
def sRet (f : En → Hea → Res Val) : En → Hea → SRes := fun e h => ofR (f e h) e fun d h1 => .rt d h1
def sRetN : En → Hea → SRes := fun _ h => .rt .non h
def sEx (f : En → Hea → Res Val) : En → Hea → SRes := fun e h => ofR (f e h) e fun _ h1 => .nx e h1
def sIf (f : En → Hea → Res Val) (s1 s2 : En → Hea → SRes) : En → Hea → SRes := fun e h => ofR (f e h) e fun d h1 => match d with
  | .bl true => s1 e h1
  | .bl false => s2 e h1
  | _ => .stuck
/-- targets -/
def gN (i : Nat) : Val → En → Option En := fun v e => some (e.set i (some v))
def setAll : List Nat → List Val → En → Option En
  | [], [], e => some e
  | i :: is, v :: vs, e => setAll is vs (e.set i (some v))
  | _, _, _ => none
def gT (is : List Nat) : Val → En → Option En := fun v e => match v with
  | .tup xs => setAll is xs e
  | _ => none
def sAsg (g : Val → En → Option En) (f : En → Hea → Res Val) : En → Hea → SRes := fun e h => ofR (f e h) e fun d h1 => match g d e with
  | some e1 => .nx e1 h1
  | none => .stuck
/-- a, b, .. = x, y, ..: a display -/
def sPar (is : List Nat) (f : En → Hea → Res (List Val)) : En → Hea → SRes := fun e h => ofR (f e h) e fun ds h1 => match setAll is ds e with
  | some e1 => .nx e1 h1
  | none => .stuck
/-- targets by HandS's readings -/
def GOk (S : Sy) (vs : List Nat) (g : TG) (b : Val → En → Option En) : Prop :=
  ∀ (ρ : List Addr) (H : Hp) (h : Hea) (e : En) (σ : St) (d : Val) (v : V) (e' : En) (Q : St → Hp → Prop), Rel S ρ h H → ER S ρ H e σ → Rep S ρ H d v → b d e = some e' → (∀ σ', ER S ρ H e' σ' → wipe σ' vs = wipe σ vs → Q σ' H) → g v σ H Q
theorem wipe_set {σ : St} {i : Nat} {o : Option V} : ∀ {vs : List Nat}, i ∈ vs → wipe (σ.set i o) vs = wipe σ vs
  | v :: vs, h => by
    unfold wipe
    by_cases hm : i ∈ vs
    · rw [wipe_set hm]
    · have e : i = v := by
        rcases List.mem_cons.mp h with z | z
        · exact z
        · exact absurd z hm
      subst e
      have key : ∀ ws : List Nat, i ∉ ws → (wipe (σ.set i o) ws).set i none = (wipe σ ws).set i none := by
        intro ws
        induction ws with
        | nil => intro _; show (σ.set i o).set i none = σ.set i none; rw [List.set_set]
        | cons w ws ih =>
          intro hw
          have h1 : i ≠ w := fun z => hw (by rw [z]; exact List.mem_cons_self)
          have h2 : i ∉ ws := fun z => hw (List.mem_cons_of_mem _ z)
          show ((wipe (σ.set i o) ws).set w none).set i none = ((wipe σ ws).set w none).set i none
          rw [List.set_comm _ _ (Ne.symm h1), ih h2, List.set_comm _ _ h1]
      exact key vs hm
theorem gok_name {S : Sy} {i : Nat} {vs : List Nat} (hi : i ∈ vs) : GOk S vs (gName i) (gN i) := fun ρ H h e σ d v e' Q R E r b q => by
  cases b
  exact q _ (E.set r i) (wipe_set hi)
def gsNames : List Nat → TGs
  | [] => gNil
  | i :: is => gCons (gName i) (gsNames is)
theorem gs_names {S : Sy} {ρ : List Addr} {H : Hp} {vs : List Nat} : ∀ (is : List Nat) (e : En) (σ : St) (ds : List Val) (us : List V) (e' : En) (Q : St → Hp → Prop), (∀ i ∈ is, i ∈ vs) → ER S ρ H e σ → Reps S ρ H ds us → setAll is ds e = some e' → (∀ σ', ER S ρ H e' σ' → wipe σ' vs = wipe σ vs → Q σ' H) → gsNames is us σ H Q
  | [], e, σ, [], [], e', Q, _, E, .nil, b, q => by cases b; exact ⟨rfl, q _ E rfl⟩
  | [], e, σ, d :: ds, u :: us, e', Q, _, E, .cons _ _, b, q => by cases b
  | i :: is, e, σ, [], [], e', Q, _, E, .nil, b, q => by cases b
  | i :: is, e, σ, d :: ds, u :: us, e', Q, hv, E, .cons r t, b, q => by
    refine ⟨u, us, rfl, ?_⟩
    refine gs_names is _ _ ds us e' Q (fun j hj => hv j (List.mem_cons_of_mem _ hj)) (E.set r i) t b fun σ' E' w => q σ' E' ?_
    rw [w, wipe_set (hv i List.mem_cons_self)]
theorem setAll_len : ∀ {is : List Nat} {ds : List Val} {e e' : En}, setAll is ds e = some e' → ds.length = is.length
  | [], [], _, _, _ => rfl
  | _ :: is, _ :: ds, _, _, h => congrArg (· + 1) (setAll_len (is := is) h)
  | [], _ :: _, _, _, h => by cases h
  | _ :: _, [], _, _, h => by cases h
theorem gok_tup {S : Sy} {is vs : List Nat} (hi : ∀ i ∈ is, i ∈ vs) : GOk S vs (gTup S.K is.length (gsNames is)) (gT is) := fun ρ H h e σ d v e' Q R E r b q => by
  unfold gT at b
  split at b
  · obtain ⟨a, us, rfl, sq, rr⟩ := r.tup_
    refine ⟨a, us, rfl, sq, ?_, gs_names is e σ _ us e' Q hi E rr b q⟩
    rw [← rr.length]
    exact setAll_len b
  · cases b
section
variable {T : Tb} {X : Cx} {W : WX} {a b c : Expr} {f : En → Hea → Res Val} {s : Stmt} {ss s1 s2 : List Stmt} {g g1 g2 : En → Hea → SRes} {pos : Pos}
theorem ss_nil : SSs T X W [] sNil := pss_nil.imp fun D σ H q => by
  obtain ⟨ρ, e, h, R, E, a⟩ := q
  exact a ρ σ H .rfl R E
theorem ss_one (h : SSt T X W s g) : SSs T X W [s] g := pss_one h
theorem ss_cons (h1 : SSt T X W s g1) (h2 : SSs T X W ss g2) : SSs T X W (s :: ss) (sSeq g1 g2) := (pss_cons h1 h2).imp fun D σ H q => by
  obtain ⟨ρ, e, h, R, E, a⟩ := q
  refine ⟨ρ, e, h, R, E, ?_⟩
  unfold sSeq at a
  revert a
  cases g1 e h with
  | nx e1 h1 => exact fun a ρ1 σ1 H1 s R1 E1 => ⟨ρ1, e1, h1, R1, E1, AftS.later (r := g2 e1 h1) a s⟩
  | rt v h1 => exact id
  | bk e1 h1 => exact id
  | ct e1 h1 => exact id
  | exc c d e1 h1 => exact id
  | stuck => exact id
theorem st_set {i : Nat} {x : Str} {pos' : Pos} (hN : X.N.Nodup) (hi : X.N[i]? = some x) (hx : Loc X.env.scope x) (ha : SE T X W a f) (hs : swapsWith a (some (.Name x pos')) pos.line X.env = pure false := by rfl)
    (hf : X.fn x = true ∨ X.env.scope.names.lookup x = some .local := by first | exact .inl rfl | exact .inr rfl) : SSt T X W (.Assign [.Name x pos'] a pos) (sSet i f) := (ps_set hN hi hx ha hs hf).imp fun D σ H q => by
  obtain ⟨ρ, e, h, R, E, a⟩ := q
  exact ⟨ρ, e, h, R, E, (a.ofR E).mono fun v H1 ⟨ρ1, d, h1, s, R1, r, E1, a1⟩ => a1 ρ1 _ H1 .rfl R1 (E1.set r i)⟩
theorem st_ret (ha : SE T X W a f) : SSt T X W (.Return (some a) pos) (sRet f) := (ps_ret ha).imp fun D σ H q => by
  obtain ⟨ρ, e, h, R, E, a⟩ := q
  exact ⟨ρ, e, h, R, E, (a.ofR E).mono fun v H1 ⟨ρ1, d, h1, s, R1, r, E1, a1⟩ => a1 ρ1 _ H1 .rfl R1 r⟩
theorem st_retN : SSt T X W (.Return none pos) sRetN := ps_retN.imp fun D σ H q => by
  obtain ⟨ρ, e, h, R, E, a⟩ := q
  exact a ρ _ H .rfl R .non
theorem st_ex (ha : SE T X W a f) (hs : swapsWith a none pos.line X.env = pure false := by rfl) : SSt T X W (.Expr a pos) (sEx f) := (ps_expr ha hs).imp fun D σ H q => by
  obtain ⟨ρ, e, h, R, E, a⟩ := q
  exact ⟨ρ, e, h, R, E, (a.ofR E).mono fun v H1 ⟨ρ1, d, h1, s, R1, r, E1, a1⟩ => a1 ρ1 _ H1 .rfl R1 E1⟩
theorem st_pass : SSt T X W (.Pass pos) sNil := ps_pass.imp fun D σ H q => by
  obtain ⟨ρ, e, h, R, E, a⟩ := q
  exact a ρ σ H .rfl R E
theorem st_if (hc : ST T X W c f) (h1 : SSs T X W s1 g1) (h2 : SSs T X W s2 g2) : SSt T X W (.If c s1 s2 pos) (sIf f g1 g2) := (ps_if hc h1 h2).imp fun D σ H q => by
  obtain ⟨ρ, e, h, R, E, a⟩ := q
  refine ⟨ρ, e, h, R, E, (a.ofR E).mono fun v H1 ⟨ρ1, d, h1, s, R1, r, E1, a1⟩ => ?_⟩
  split at a1
  · obtain rfl := r.bl_
    refine ⟨true, rfl, ?_⟩
    refine itT rfl ?_
    exact ⟨ρ1, e, h1, R1, E1, a1⟩
  · obtain rfl := r.bl_
    refine ⟨false, rfl, ?_⟩
    refine itF rfl ?_
    exact ⟨ρ1, e, h1, R1, E1, a1⟩
  · exact a1.elim
theorem st_asg {tg : Expr} {g : TG} {b : Val → En → Option En} {vs : List Nat} (hg : PG X tg g) (ok : GOk (sy T X) vs g b) (ha : SE T X W a f) (hs : swapsWithSole [tg] a pos.line X.env = pure false := by rfl) (hw : swappedStores [tg] a X.env = pure none := by rfl)
    (h1 : (assignEach [tg] X.env).map (·.2) = [assign tg X.env] := by rfl) : SSt T X W (.Assign [tg] a pos) (sAsg b f) := (ps_asg ha hg hs hw h1).imp fun D σ H q => by
  obtain ⟨ρ, e, h, R, E, a⟩ := q
  refine ⟨ρ, e, h, R, E, (a.ofR E).mono fun v H1 ⟨ρ1, d, h1, s, R1, r, E1, a1⟩ => ?_⟩
  split at a1
  · rename_i e1 he
    exact ok ρ1 H1 h1 e σ d v e1 D.nx R1 E1 r he fun σ' E' _ => a1 ρ1 _ H1 .rfl R1 E'
  · exact a1.elim
theorem st_par2 {i j : Nat} {x y : Str} {g : En → Hea → Res (List Val)} {px py pt : Pos} {kt k2 pt2} (hc : X.calm = true) (hN : X.N.Nodup) (hi : X.N[i]? = some x) (hj : X.N[j]? = some y) (hij : i ≠ j)
    (hx : X.env.scope.names.lookup x = some .local) (hy : X.env.scope.names.lookup y = some .local) (ha : SA T X W [a, b] g)
    (hw : swappedStores [.Tuple [.Name x px, .Name y py] kt pt] (.Tuple [a, b] k2 pt2) X.env = pure (some [x, y]))
    (hs : swapsWithSole [.Tuple [.Name x px, .Name y py] kt pt] (.Tuple [a, b] k2 pt2) pos.line X.env = pure false := by rfl) :
    SSt T X W (.Assign [.Tuple [.Name x px, .Name y py] kt pt] (.Tuple [a, b] k2 pt2) pos) (sPar [i, j] g) := (ps_par hc hN hi hj hij hx hy ha hw hs).imp fun D σ H q => by
  obtain ⟨ρ, e, h, R, E, a⟩ := q
  refine ⟨ρ, e, h, R, E, (a.ofA E).mono fun v H1 ⟨ρ1, d, h1, s, R1, r, E1, a1⟩ => ?_⟩
  split at a1
  · rename_i e1 he
    have hl := setAll_len he
    match d, v, r, hl with
    | [d1, d2], [v1, v2], .cons r1 (.cons r2 .nil), _ =>
      cases he
      exact ⟨v1, v2, rfl, a1 ρ1 _ H1 .rfl R1 ((E1.set r1 i).set r2 j)⟩
  · exact a1.elim
end
/-! ### what a loop walks -/
structure Src where
  item : Nat → Hea → Option (Option Val)
  fuel : Nat
def srcFix (xs : List Val) : Src := ⟨fun k _ => some xs[k]?, xs.length + 1⟩
def srcLive (i : Nat) : Src := ⟨fun k h => (lstAt h i).map fun xs => xs[k]?, 100000⟩
def JOk (S : Sy) (ρ : List Addr) (H : Hp) (J : It) (it : Nat → Hea → Option (Option Val)) : Prop :=
  ∀ (ρ' : List Addr) (H' : Hp) (h' : Hea), Go S ρ H ρ' H' → Rel S ρ' h' H' → ∀ k, match it k h' with
    | some none => J.stop k H'
    | some (some d) => J.go k H' ∧ ∀ x H'', J.yld k H' x H'' → Go S ρ' H' ρ' H'' ∧ Rel S ρ' h' H'' ∧ Rep S ρ' H'' d x
    | none => True
def AftI (S : Sy) (ρ : List Addr) (H : Hp) (r : Res Src) (R : It → Hp → Prop) (W : XK) : Prop := match r with
  | .ok s h' => ∀ ρ' H' J, Go S ρ H ρ' H' → Rel S ρ' h' H' → JOk S ρ' H' J s.item → R J H'
  | .exc c d h' => ∀ ρ' v H' dx, Go S ρ H ρ' H' → Rel S ρ' h' H' → Rep S ρ' H' d v → H' dx = some (.xd [(S.fld c, v)]) → W (.ref (S.ca c)) (some dx) H'
  | .stuck => False
def tI (S : Sy) (W : WX) (f : En → Hea → Res Src) : TI := fun σ H R => ∃ ρ e h, Rel S ρ h H ∧ ER S ρ H e σ ∧ AftI S ρ H (f e h) R (fun c d H' => W c d σ H')
abbrev SI (T : Tb) (X : Cx) (W : WX) (tg iter : Expr) (f : En → Hea → Res Src) : Prop := PI X tg iter (tI (sy T X) W f)
theorem _root_.L2.PI.imp {X : Cx} {tg e : Expr} {t t' : TI} (p : PI X tg e t) (h : ∀ σ H Q, t' σ H Q → t σ H Q) : PI X tg e t' := ⟨fun pins s σ H Q I q => p.run pins s σ H Q I (h σ H Q q)⟩
section
variable {S : Sy} {H : Hp} {ρ : List Addr}
theorem AftI.mono {r : Res Src} {R R' : It → Hp → Prop} {W : XK} (a : AftI S ρ H r R W) (h : ∀ v H', R v H' → R' v H') : AftI S ρ H r R' W := by
  cases r with
  | ok d h' => exact fun ρ1 H1 J s R j => h _ _ (a ρ1 H1 J s R j)
  | exc c d h' => exact a
  | stuck => exact a
theorem AftI.later {ρ1 : List Addr} {H1 : Hp} {r : Res Src} {R : It → Hp → Prop} {W : XK} (a : AftI S ρ H r R W) (s : Go S ρ H ρ1 H1) : AftI S ρ1 H1 r R W := by
  cases r with
  | ok d h' => exact fun ρ2 H2 J s2 => a ρ2 H2 J (s.trans s2)
  | exc c d h' => exact fun ρ2 v H2 dx s2 => a ρ2 v H2 dx (s.trans s2)
  | stuck => exact a
theorem AftI.bind {r : Res Val} {k : Val → Hea → Res Src} {R : It → Hp → Prop} {W : XK} (a : AftI S ρ H (r.bind k) R W) :
    Aft S ρ H r (fun v H1 => ∃ ρ1 d h1, Go S ρ H ρ1 H1 ∧ Rel S ρ1 h1 H1 ∧ Rep S ρ1 H1 d v ∧ AftI S ρ1 H1 (k d h1) R W) W := by
  cases r with
  | ok d h => exact fun ρ1 v H1 s R r => ⟨ρ1, d, h, s, R, r, AftI.later (r := k d h) a s⟩
  | exc c d h => exact a
  | stuck => exact a
theorem AftI.bindA {r : Res (List Val)} {k : List Val → Hea → Res Src} {R : It → Hp → Prop} {W : XK} (a : AftI S ρ H (r.bind k) R W) :
    AftA S ρ H r (fun v H1 => ∃ ρ1 d h1, Go S ρ H ρ1 H1 ∧ Rel S ρ1 h1 H1 ∧ Reps S ρ1 H1 d v ∧ AftI S ρ1 H1 (k d h1) R W) W := by
  cases r with
  | ok d h => exact fun ρ1 v H1 s R r => ⟨ρ1, d, h, s, R, r, AftI.later (r := k d h) a s⟩
  | exc c d h => exact a
  | stuck => exact a
theorem AftI.bindL {r : Res (List Val)} {k : List Val → Hea → Res Src} {R : It → Hp → Prop} {W : XK} (a : AftI S ρ H (r.bind k) R W) :
    AftL S ρ H r (fun v H1 => ∃ ρ1 d h1 p vs, Go S ρ H ρ1 H1 ∧ Rel S ρ1 h1 H1 ∧ v = .ref p ∧ H1 p = some (.lst vs) ∧ Off ρ1 p ∧ Reps S ρ1 H1 d vs ∧ AftI S ρ1 H1 (k d h1) R W) W := by
  cases r with
  | ok d h => exact fun ρ1 p v H1 s R e n z r => ⟨ρ1, d, h, p, v, s, R, rfl, e, n, r, AftI.later (r := k d h) a s⟩
  | exc c d h => exact a
  | stuck => exact a
/-- a tuple -/
theorem j_tup {a : Addr} {xs : List Val} {vs : List V} (sq : SqT S.K H a vs) (r : Reps S ρ H xs vs) : JOk S ρ H (Itt S.K a) (srcFix xs).item := fun ρ' H' h' g R k => by
  have sq' := g.kp.1 _ _ sq
  have r' := r.go g
  show match some xs[k]? with | some none => _ | some (some d) => _ | none => _
  cases e : xs[k]? with
  | none =>
    have hk : xs.length ≤ k := List.getElem?_eq_none_iff.mp e
    exact ⟨vs, sq', by rw [← r.length]; exact hk⟩
  | some d =>
    obtain ⟨v, ev, rv⟩ := r'.get e
    refine ⟨⟨vs, v, sq', ev⟩, fun x H'' ⟨eh, q⟩ => ?_⟩
    subst eh
    have z := q vs sq'
    rw [ev] at z
    cases z
    exact ⟨.rfl, R, rv⟩
/-- a list that nothing else holds -/
theorem j_tmp {a : Addr} {xs : List Val} {vs : List V} (sq : H a = some (.lst vs)) (n : Off ρ a) (r : Reps S ρ H xs vs) : JOk S ρ H (Itl S.K a) (srcFix xs).item := fun ρ' H' h' g R k => by
  have e' := g.fr _ _ sq n
  have sq' : SqL S.K H' a vs := .inl (.inl e')
  have r' := r.go g
  show match some xs[k]? with | some none => _ | some (some d) => _ | none => _
  cases e : xs[k]? with
  | none =>
    have hk : xs.length ≤ k := List.getElem?_eq_none_iff.mp e
    exact ⟨vs, sq', by rw [← r.length]; exact hk⟩
  | some d =>
    obtain ⟨v, ev, rv⟩ := r'.get e
    refine ⟨⟨vs, v, sq', ev⟩, fun x H'' ⟨eh, q⟩ => ?_⟩
    subst eh
    have z := q vs sq'
    rw [ev] at z
    cases z
    exact ⟨.rfl, R, rv⟩
/-- a list of the heap, as it stands at each turn -/
theorem j_live {a : Addr} {i : Nat} (ea : ρ[i]? = some a) : JOk S ρ H (Itl S.K a) (srcLive i).item := fun ρ' H' h' g R k => by
  show match (lstAt h' i).map fun xs => xs[k]? with | some none => _ | some (some d) => _ | none => _
  cases el : lstAt h' i with
  | none => exact True.intro
  | some xs =>
    obtain ⟨vs, sq', r'⟩ := R.lst el (g.sub _ _ ea)
    show match some xs[k]? with | some none => _ | some (some d) => _ | none => _
    cases e : xs[k]? with
    | none =>
      have hk : xs.length ≤ k := List.getElem?_eq_none_iff.mp e
      exact ⟨vs, sq', by rw [← r'.length]; exact hk⟩
    | some d =>
      obtain ⟨v, ev, rv⟩ := r'.get e
      refine ⟨⟨vs, v, sq', ev⟩, fun x H'' ⟨eh, q⟩ => ?_⟩
      subst eh
      have z := q vs sq'
      rw [ev] at z
      cases z
      exact ⟨.rfl, R, rv⟩
def rangeV (lo : Int) (n : Nat) : List Val := (List.range n).map fun (i : Nat) => Val.int (lo + (i : Int))
theorem j_range {lo : Int} {n : Nat} : JOk S ρ H (Itr lo n) (srcFix (rangeV lo n)).item := fun ρ' H' h' g R k => by
  show match some (rangeV lo n)[k]? with | some none => _ | some (some d) => _ | none => _
  by_cases hk : k < n
  · have e : (rangeV lo n)[k]? = some (.int (lo + (k : Int))) := by
      unfold rangeV
      rw [List.getElem?_map, List.getElem?_range hk]
      rfl
    rw [e]
    refine ⟨hk, fun x H'' ⟨eh, q⟩ => ?_⟩
    subst eh q
    exact ⟨.rfl, R, .int _⟩
  · have e : (rangeV lo n)[k]? = none := by
      unfold rangeV
      rw [List.getElem?_eq_none_iff]
      simpa using hk
    rw [e]
    exact Nat.le_of_not_lt hk
end
/-- sources -/
def iVal (f : En → Hea → Res Val) : En → Hea → Res Src := fun e h => (f e h).bind fun d h1 => match d with
  | .ref i => if (lstAt h1 i).isSome = true then .ok (srcLive i) h1 else .stuck
  | _ => .stuck
def iTupV (f : En → Hea → Res Val) : En → Hea → Res Src := fun e h => (f e h).bind fun d h1 => match d with
  | .tup xs => .ok (srcFix xs) h1
  | _ => .stuck
def iTmp (f : En → Hea → Res (List Val)) : En → Hea → Res Src := fun e h => (f e h).bind fun xs h1 => .ok (srcFix xs) h1
def rngOk (i : Int) : Bool := decide (-(2 ^ 62) ≤ i ∧ i < 2 ^ 62)
def iRng1V (f : En → Hea → Res (List Val)) : En → Hea → Res Src := fun e h => (f e h).bind fun ds h1 => match ds with
  | [.int j] => if rngOk j = true then .ok (srcFix (rangeV 0 j.toNat)) h1 else .stuck
  | _ => .stuck
def iRng2V (f : En → Hea → Res (List Val)) : En → Hea → Res Src := fun e h => (f e h).bind fun ds h1 => match ds with
  | [.int i, .int j] => if (rngOk i && rngOk j) = true then .ok (srcFix (rangeV i (j - i).toNat)) h1 else .stuck
  | _ => .stuck
section
variable {T : Tb} {X : Cx} {W : WX} {tg a b c : Expr} {f : En → Hea → Res Val} {g : En → Hea → Res (List Val)} {pos p : Pos}
theorem si_val (ha : SE T X W a f) : SI T X W tg a (iVal f) := (pi_list ha).imp fun σ H Q q => by
  obtain ⟨ρ, e, h, R, E, a⟩ := q
  refine ⟨ρ, e, h, R, E, (AftI.bind a).mono fun v H1 ⟨ρ1, d, h1, s, R1, r, a1⟩ => ?_⟩
  split at a1
  · obtain ⟨p, rfl, ea⟩ := r.ref_
    split at a1
    · rename_i i hs
      obtain ⟨xs, hx⟩ := Option.isSome_iff_exists.mp hs
      obtain ⟨vs, sq, _⟩ := R1.lst hx ea
      exact ⟨p, rfl, ⟨vs, sq⟩, a1 ρ1 H1 _ .rfl R1 (j_live ea)⟩
    · exact a1.elim
  · exact a1.elim
theorem si_tup (ha : SE T X W a f) : SI T X W tg a (iTupV f) := (pi_tup ha).imp fun σ H Q q => by
  obtain ⟨ρ, e, h, R, E, a⟩ := q
  refine ⟨ρ, e, h, R, E, (AftI.bind a).mono fun v H1 ⟨ρ1, d, h1, s, R1, r, a1⟩ => ?_⟩
  split at a1
  · obtain ⟨p, vs, rfl, sq, rr⟩ := r.tup_
    exact ⟨p, rfl, ⟨vs, sq⟩, a1 ρ1 H1 _ .rfl R1 (j_tup sq rr)⟩
  · exact a1.elim
theorem si_tmp (ha : SL T X W a g) : SI T X W tg a (iTmp g) := (pi_list ha).imp fun σ H Q q => by
  obtain ⟨ρ, e, h, R, E, a⟩ := q
  refine ⟨ρ, e, h, R, E, (AftI.bindL a).mono fun v H1 ⟨ρ1, d, h1, p, vs, s, R1, ev, el, n, r, a1⟩ => ?_⟩
  subst ev
  exact ⟨p, rfl, ⟨vs, .inl (.inl el)⟩, a1 ρ1 H1 _ .rfl R1 (j_tmp el n r)⟩
theorem si_range1 (hg : Gl X "range") (hm : X.mg "range" = none) (ha : SA T X W [a] g) (hs : starEach [a] X.env = [(false, eval a X.env)] := by rfl) : SI T X W tg (.Call (.Name "range" p) [a] [] pos) (iRng1V g) := (pi_range1 hg hm ha hs).imp fun σ H Q q => by
  obtain ⟨ρ, e, h, R, E, a⟩ := q
  refine ⟨ρ, e, h, R, E, (AftI.bindA a).mono fun v H1 ⟨ρ1, d, h1, s, R1, r, a1⟩ => ?_⟩
  split at a1
  · obtain rfl := Reps.ints (ns := [_]) r
    split at a1
    · rename_i hr
      have hr := of_decide_eq_true hr
      exact ⟨_, rfl, hr.1, hr.2, a1 ρ1 H1 _ .rfl R1 j_range⟩
    · exact a1.elim
  · exact a1.elim
theorem si_range2 (hg : Gl X "range") (hm : X.mg "range" = none) (ha : SA T X W [a, b] g) (hs : starEach [a, b] X.env = [(false, eval a X.env), (false, eval b X.env)] := by rfl) (hs2 : starEach [b] X.env = [(false, eval b X.env)] := by rfl) :
    SI T X W tg (.Call (.Name "range" p) [a, b] [] pos) (iRng2V g) := (pi_range2 hg hm ha hs hs2).imp fun σ H Q q => by
  obtain ⟨ρ, e, h, R, E, a⟩ := q
  refine ⟨ρ, e, h, R, E, (AftI.bindA a).mono fun v H1 ⟨ρ1, d, h1, s, R1, r, a1⟩ => ?_⟩
  split at a1
  · obtain rfl := Reps.ints (ns := [_, _]) r
    split at a1
    · rename_i hr
      rw [Bool.and_eq_true] at hr
      have h1 := of_decide_eq_true hr.1
      have h2 := of_decide_eq_true hr.2
      exact ⟨_, _, rfl, ⟨h1.1, h1.2, h2.1, h2.2⟩, a1 ρ1 H1 _ .rfl R1 j_range⟩
    · exact a1.elim
  · exact a1.elim
end
/-! ### for -/
def forG (it : Nat → Hea → Option (Option Val)) (b : Val → En → Option En) (body : En → Hea → SRes) : Nat → Nat → En → Hea → SRes
  | 0, _, _, _ => .stuck
  | n + 1, k, e, h => match it k h with
    | some none => .nx e h
    | some (some v) => match b v e with
      | some e1 => match body e1 h with
        | .nx e2 h2 => forG it b body n (k + 1) e2 h2
        | .ct e2 h2 => forG it b body n (k + 1) e2 h2
        | .bk e2 h2 => .nx e2 h2
        | r => r
      | none => .stuck
    | none => .stuck
def sFor (src : En → Hea → Res Src) (b : Val → En → Option En) (body : En → Hea → SRes) : En → Hea → SRes := fun e h => ofR (src e h) e fun s h1 => forG s.item b body s.fuel 0 e h1
/-! ### while -/
def whG (t : En → Hea → Res Val) (body : En → Hea → SRes) : Nat → En → Hea → SRes
  | 0, _, _ => .stuck
  | n + 1, e, h => ofR (t e h) e fun d h1 => match d with
    | .bl true => match body e h1 with
      | .nx e2 h2 => whG t body n e2 h2
      | .ct e2 h2 => whG t body n e2 h2
      | .bk e2 h2 => .nx e2 h2
      | r => r
    | .bl false => .nx e h1
    | _ => .stuck
def sWhile (fuel : Nat) (t : En → Hea → Res Val) (body : En → Hea → SRes) : En → Hea → SRes := fun e h => whG t body fuel e h
section
variable {S : Sy} {W : WX} {H : Hp} {D : Ends} {ρ : List Addr} {σ : St} {e : En}
theorem AftS.ofI {r : Res Src} {k : Src → Hea → SRes} (a : AftS S ρ H (Lad.ofR r e k) D W) (E : ER S ρ H e σ) :
    AftI S ρ H r (fun J H1 => ∃ ρ1 d h1, Go S ρ H ρ1 H1 ∧ Rel S ρ1 h1 H1 ∧ JOk S ρ1 H1 J d.item ∧ ER S ρ1 H1 e σ ∧ AftS S ρ1 H1 (k d h1) D W) (fun c d H' => W c d σ H') := by
  cases r with
  | ok d h => exact fun ρ1 H1 J s R r => ⟨ρ1, d, h, s, R, r, E.go s, AftS.later (r := k d h) a s⟩
  | exc c d h => exact fun ρ1 v H1 dx s R r x => a ρ1 v σ H1 dx s R r (E.go s) x
  | stuck => exact a
end
section
variable {T : Tb} {X : Cx} {W : WX} {tg a : Expr} {src : En → Hea → Res Src} {f : En → Hea → Res Val} {body : List Stmt} {fb : En → Hea → SRes} {g : TG} {b : Val → En → Option En} {vs : List Nat} {pos : Pos}
theorem st_for (hp : PassesOwn (model X.prog X.w) X.A X.env X.xe) (hc : X.calm = true) (hi : SI T X W tg a src) (hg : PG X tg g) (ok : GOk (sy T X) vs g b) (hb : SSs T X W body fb) (hs : ∀ x, foldedSetIterable a X.env x = pure x := by intro _; rfl) :
    SSt T X W (.For tg a body [] pos) (sFor src b fb) := by
  refine PS.imp (ps_for hp hc hi hg hb hs) fun D σ H q => ?_
  obtain ⟨ρ, e, h, R, E, a⟩ := q
  refine ⟨ρ, e, h, R, E, (a.ofI E).mono fun J H1 ⟨ρ1, d, h1, s, R1, j, E1, a1⟩ => ?_⟩
  refine ⟨fun k m σ H2 => ∃ ρ2 e2 h2, Go (sy T X) ρ1 H1 ρ2 H2 ∧ Rel (sy T X) ρ2 h2 H2 ∧ ER (sy T X) ρ2 H2 e2 σ ∧ AftS (sy T X) ρ2 H2 (forG d.item b fb m k e2 h2) D W, ⟨d.fuel, ρ1, e, h1, .rfl, R1, E1, a1⟩, fun k m σ H2 w => ?_⟩
  obtain ⟨ρ2, e2, h2, g2, R2, E2, a2⟩ := w
  cases m with
  | zero => exact a2.elim
  | succ m =>
    have jk := j ρ2 H2 h2 g2 R2 k
    unfold forG at a2
    cases hit : d.item k h2 with
    | none => rw [hit] at a2; exact a2.elim
    | some o =>
      rw [hit] at a2 jk
      cases o with
      | none => exact .inl ⟨jk, a2 ρ2 σ H2 .rfl R2 E2⟩
      | some v =>
        refine .inr ⟨jk.1, fun σ' H' => ∃ ρ2 e2 h2, Go (sy T X) ρ1 H1 ρ2 H' ∧ Rel (sy T X) ρ2 h2 H' ∧ ER (sy T X) ρ2 H' e2 σ' ∧ AftS (sy T X) ρ2 H' (forG d.item b fb m (k + 1) e2 h2) D W, fun σ' H' z => ⟨m, Nat.lt_succ_self m, z⟩, fun x H' y => ?_⟩
        obtain ⟨g3, R3, r3⟩ := jk.2 x H' y
        dsimp only at a2
        cases hbv : b v e2 with
        | none => rw [hbv] at a2; exact a2.elim
        | some e3 =>
          rw [hbv] at a2
          refine ok ρ2 H' h2 e2 σ v x e3 _ R3 (E2.go g3) r3 hbv fun σ3 E3 _ => ⟨ρ2, e3, h2, R3, E3, ?_⟩
          have g4 := g2.trans g3
          have a3 := AftS.later a2 g3
          dsimp only at a3
          revert a3
          cases fb e3 h2 with
          | nx e4 h4 => exact fun a3 ρ4 σ4 H4 s4 R4 E4 => ⟨ρ4, e4, h4, g4.trans s4, R4, E4, a3.later s4⟩
          | ct e4 h4 => exact fun a3 ρ4 σ4 H4 s4 R4 E4 => ⟨ρ4, e4, h4, g4.trans s4, R4, E4, a3.later s4⟩
          | bk e4 h4 => exact fun a3 ρ4 σ4 H4 s4 R4 E4 => a3 ρ4 σ4 H4 s4 R4 E4
          | rt v4 h4 => exact fun a3 => a3
          | exc c4 d4 e4 h4 => exact fun a3 => a3
          | stuck => exact fun a3 => a3
theorem st_while (n : Nat) (hp : PassesOwn (model X.prog X.w) X.A X.env X.xe) (ht : ST T X W a f) (hb : SSs T X W body fb) : SSt T X W (.While a body [] pos) (sWhile n f fb) := by
  refine PS.imp (ps_while hp ht hb) fun D σ H q => ?_
  obtain ⟨ρ, e, h, R, E, a⟩ := q
  refine ⟨fun m σ H2 => ∃ ρ2 e2 h2, Rel (sy T X) ρ2 h2 H2 ∧ ER (sy T X) ρ2 H2 e2 σ ∧ AftS (sy T X) ρ2 H2 (whG f fb m e2 h2) D W, ⟨n, ρ, e, h, R, E, a⟩, fun m σ H2 w => ?_⟩
  obtain ⟨ρ2, e2, h2, R2, E2, a2⟩ := w
  cases m with
  | zero => exact a2.elim
  | succ m =>
    unfold whG at a2
    refine ⟨ρ2, e2, h2, R2, E2, (a2.ofR E2).mono fun v H3 ⟨ρ3, d, h3, s, R3, r, E3, a3⟩ => ?_⟩
    split at a3
    · obtain rfl := r.bl_
      refine ⟨true, rfl, ?_⟩
      refine itT rfl ?_
      refine ⟨fun σ' H' => ∃ ρ2 e2 h2, Rel (sy T X) ρ2 h2 H' ∧ ER (sy T X) ρ2 H' e2 σ' ∧ AftS (sy T X) ρ2 H' (whG f fb m e2 h2) D W, fun σ' H' z => ⟨m, Nat.lt_succ_self m, z⟩, ρ3, e2, h3, R3, E3, ?_⟩
      revert a3
      cases fb e2 h3 with
      | nx e4 h4 => exact fun a3 ρ4 σ4 H4 s4 R4 E4 => ⟨ρ4, e4, h4, R4, E4, a3.later s4⟩
      | ct e4 h4 => exact fun a3 ρ4 σ4 H4 s4 R4 E4 => ⟨ρ4, e4, h4, R4, E4, a3.later s4⟩
      | bk e4 h4 => exact fun a3 ρ4 σ4 H4 s4 R4 E4 => a3 ρ4 σ4 H4 s4 R4 E4
      | rt v4 h4 => exact fun a3 => a3
      | exc c4 d4 e4 h4 => exact fun a3 => a3
      | stuck => exact fun a3 => a3
    · obtain rfl := r.bl_
      refine ⟨false, rfl, ?_⟩
      refine itF rfl ?_
      exact a3 ρ3 σ H3 .rfl R3 E3
    · exact a3.elim
end
end Lad
end
/-! ## LadComp -/
section
set_option maxRecDepth 100000
set_option maxHeartbeats 1000000
namespace Lad
open PySem L2
/-! ### list comprehensions -/
def noX {α : Type} (r : Res α) : Res α := match r with
  | .ok a h => .ok a h
  | _ => .stuck
def wipeE (e : En) : List Nat → En
  | [] => e
  | v :: vs => (wipeE e vs).set v none
def compG (it : Nat → Hea → Option (Option Val)) (b : Val → En → Option En) (tt f : En → Hea → Res Val) (e0 : En) : Nat → Nat → List Val → Hea → Res (List Val)
  | 0, _, _, _ => .stuck
  | n + 1, k, acc, h => match it k h with
    | some none => .ok acc h
    | some (some v) => match b v e0 with
      | some e1 => (noX (tt e1 h)).bind fun c h1 => match c with
        | .bl true => (noX (f e1 h1)).bind fun y h2 => if acc.length < 16777216 then compG it b tt f e0 n (k + 1) (acc ++ [y]) h2 else .stuck
        | .bl false => compG it b tt f e0 n (k + 1) acc h1
        | _ => .stuck
      | none => .stuck
    | none => .stuck
def lComp (own : List Nat) (src : En → Hea → Res Src) (b : Val → En → Option En) (tt f : En → Hea → Res Val) : En → Hea → Res (List Val) := fun e h => (src e h).bind fun s h1 => compG s.item b tt f (wipeE e own) s.fuel 0 [] h1
def eYes : En → Hea → Res Val := fun _ h => .ok (.bl true) h
abbrev W0 : WX := fun _ _ _ _ => False
section
variable {S : Sy} {ρ ρ1 ρ2 : List Addr} {H H1 Hc : Hp} {h : Hea} {D : Addr} {us us' : List V}
theorem Go.tmp (g : Go S ρ1 H1 ρ2 Hc) (z : H1 D = Option.none) (e : Hc D = some (.lst us)) : Go S ρ1 H1 ρ2 (upd Hc D (.lst us')) :=
  ⟨g.sub, g.kp.trans (.put e True.intro), fun a o q n => by rw [upd_ne (ne_of_none q z)]; exact g.fr a o q n, g.nw⟩
theorem Rel.off (R : Rel S ρ h H) {o : HO} {u : HO} (n : Off ρ D) (e : H D = some u) (h1 : Ch u) : Rel S ρ h (upd H D o) :=
  ⟨R.len, R.inj, fun i ob a e1 e2 => (R.ob i ob a e1 e2).mono .rfl (.put e h1) (upd_ne fun z => n i (z ▸ e2))⟩
theorem Kp.lst {o : HO} (e : H D = some (.lst us)) : Kp S H (upd H D o) := .put e True.intro
theorem ER.wipe {e : En} {σ : St} (E : ER S ρ H e σ) : ∀ vs : List Nat, ER S ρ H (wipeE e vs) (L2.wipe σ vs)
  | [] => E
  | v :: vs => (E.wipe vs).gone v
theorem AftL.bindI {r : Res Src} {k : Src → Hea → Res (List Val)} {Q : VK} {W : XK} (a : AftL S ρ H (r.bind k) Q W) :
    AftI S ρ H r (fun J H1 => ∃ ρ1 d h1, Go S ρ H ρ1 H1 ∧ Rel S ρ1 h1 H1 ∧ JOk S ρ1 H1 J d.item ∧ AftL S ρ1 H1 (k d h1) Q W) W := by
  cases r with
  | ok d h => exact fun ρ1 H1 J s R j => ⟨ρ1, d, h, s, R, j, AftL.later (r := k d h) a s⟩
  | exc c d h => exact a
  | stuck => exact a
theorem AftL.noX {r : Res Val} {k : Val → Hea → Res (List Val)} {Q : VK} {W : XK} (a : AftL S ρ H ((Lad.noX r).bind k) Q W) :
    ∃ d h1, r = .ok d h1 ∧ AftL S ρ H (k d h1) Q W := by
  cases r with
  | ok d h => exact ⟨d, h, rfl, a⟩
  | exc c d h => exact a.elim
  | stuck => exact a.elim
end
section
variable {T : Tb} {X : Cx} {W : WX} {tg iter elt : Expr} {ifs : List Expr} {scope : Scope} {own : List (Str × Nat)} {src : En → Hea → Res Src} {tt f : En → Hea → Res Val} {g : TG} {b : Val → En → Option En} {pos : Pos}
abbrev STs (T : Tb) (X : Cx) (W : WX) (ifs : List Expr) (f : En → Hea → Res Val) : Prop := PTs X ifs (tB (tE (sy T X) W f))
theorem _root_.L2.PTs.imp {t t' : TT} (p : PTs X ifs t) (h : ∀ σ H Q, t' σ H Q → t σ H Q) : PTs X ifs t' := ⟨fun pins s σ H Q I q => p.run pins s σ H Q I (h σ H Q q)⟩
theorem sts_nil : STs T X W [] eYes := pts_nil.imp fun σ H Q q => by
  obtain ⟨ρ, e, h, R, E, a⟩ := q
  obtain ⟨c, ec, q⟩ := a.same R (.bl true)
  cases ec
  exact q
theorem sts_one {c : Expr} (h : ST T X W c f) : STs T X W [c] f := pts_one h
theorem lc_imp (ok : GOk (sy T X) (own.map (·.2)) g b) {σ : St} {H : Hp} {Q : VK} (q : tL (sy T X) W (lComp (own.map (·.2)) src b tt f) σ H Q) :
    tLc (tI (sy T X) W src) g (tB (tE (sy T X) W0 tt)) (tE (sy T X) W0 f) (own.map (·.2)) σ H Q := by
  obtain ⟨ρ, e, h, R, E, a⟩ := q
  refine ⟨ρ, e, h, R, E, (AftL.bindI a).mono fun J H1 ⟨ρ1, d, h1, s, R1, j, a1⟩ => fun D hD => ?_⟩
  have E1 : ER (sy T X) ρ1 H1 e σ := E.go s
  have ew := E1.wipe (own.map (·.2))
  have offD : ∀ {ρ2 : List Addr} {H2 : Hp}, Go (sy T X) ρ1 H1 ρ2 H2 → True := fun _ => True.intro
  refine ⟨fun k m Hc => ∃ ρ2 h2 acc us, Go (sy T X) ρ1 H1 ρ2 Hc ∧ Rel (sy T X) ρ2 h2 Hc ∧ Hc D = some (.lst us) ∧ Off ρ2 D ∧ Reps (sy T X) ρ2 Hc acc us ∧ AftL (sy T X) ρ1 H1 (compG d.item b tt f (wipeE e (own.map (·.2))) m k acc h2) Q (fun c d H' => W c d σ H'),
    ⟨d.fuel, ρ1, h1, [], [], .side hD, R1.side hD, upd_same, fun i z => R1.free hD z, .nil, a1⟩, fun k m Hc w => ?_⟩
  obtain ⟨ρ2, h2, acc, us, g2, R2, hDc, nD, rA, a2⟩ := w
  cases m with
  | zero => exact a2.elim
  | succ m =>
    have jk := j ρ2 Hc h2 g2 R2 k
    unfold compG at a2
    cases hit : d.item k h2 with
    | none => rw [hit] at a2; exact a2.elim
    | some o =>
      rw [hit] at a2 jk
      cases o with
      | none => exact .inl ⟨jk, a2 ρ2 D us Hc g2 R2 hDc nD hD rA⟩
      | some v =>
        refine .inr ⟨jk.1, fun Hc => ∃ ρ2 h2 acc us, Go (sy T X) ρ1 H1 ρ2 Hc ∧ Rel (sy T X) ρ2 h2 Hc ∧ Hc D = some (.lst us) ∧ Off ρ2 D ∧ Reps (sy T X) ρ2 Hc acc us ∧ AftL (sy T X) ρ1 H1 (compG d.item b tt f (wipeE e (own.map (·.2))) m (k + 1) acc h2) Q (fun c d H' => W c d σ H'),
          fun H' z => ⟨m, Nat.lt_succ_self m, z⟩, fun x H' y => ?_⟩
        obtain ⟨g3, R3, r3⟩ := jk.2 x H' y
        dsimp only at a2
        cases hbv : b v (wipeE e (own.map (·.2))) with
        | none => rw [hbv] at a2; exact a2.elim
        | some e3 =>
          rw [hbv] at a2
          have g4 := g2.trans g3
          refine ok ρ2 H' h2 _ _ v x e3 _ R3 ((E1.wipe _).go g4) r3 hbv fun σ3 E3 w3 => ⟨?_, ρ2, e3, h2, R3, E3, ?_⟩
          · rw [w3]
            have : ∀ vs : List Nat, L2.wipe (L2.wipe σ vs) vs = L2.wipe σ vs := by
              intro vs
              have key : ∀ (ws : List Nat) (τ : St), (∀ i ∈ ws, ∀ y, τ[i]? ≠ some (some y)) → L2.wipe τ ws = τ := by
                intro ws
                induction ws with
                | nil => intro _ _; rfl
                | cons w ws ih =>
                  intro τ hτ
                  show (L2.wipe τ ws).set w none = τ
                  rw [ih τ fun i hi => hτ i (List.mem_cons_of_mem _ hi)]
                  apply List.ext_getElem?
                  intro n
                  by_cases hn : w = n
                  · subst hn
                    by_cases hl : w < τ.length
                    · rw [List.getElem?_set_self hl]
                      have := hτ w List.mem_cons_self
                      cases q : τ[w]? with
                      | none => rw [List.getElem?_eq_none_iff] at q; omega
                      | some o =>
                        cases o with
                        | none => rfl
                        | some y => exact absurd q (this y)
                    · rw [List.getElem?_eq_none_iff.mpr (by simpa using hl), List.getElem?_eq_none_iff.mpr (by simpa using hl)]
                  · rw [List.getElem?_set_ne hn]
              exact key vs _ fun i hi y hy => (wipe_some hy).2 hi
            exact this _
          · dsimp only at a2
            obtain ⟨cb, hb1, ht, a3⟩ := a2.noX
            rw [ht]
            refine fun ρ5 v5 H5 s5 R5 r5 => ?_
            have g5 := g4.trans s5
            have off5 : Off ρ5 D := fun i z => by
              rcases s5.nw i D z with ⟨jj, q⟩ | q
              · exact nD jj q
              · rw [g3.fr D _ hDc nD] at q; cases q
            have hD5 : H5 D = some (.lst us) := s5.fr D _ (g3.fr D _ hDc nD) nD
            split at a3
            · obtain rfl := r5.bl_
              refine ⟨true, rfl, ?_⟩
              refine itT rfl ?_
              obtain ⟨yv, hb2, hf, a4⟩ := a3.noX
              refine ⟨ρ5, e3, hb1, R5, E3.go s5, ?_⟩
              rw [hf]
              refine fun ρ6 v6 H6 s6 R6 r6 => ?_
              have off6 : Off ρ6 D := fun i z => by
                rcases s6.nw i D z with ⟨jj, q⟩ | q
                · exact off5 jj q
                · rw [hD5] at q; cases q
              have hD6 : H6 D = some (.lst us) := s6.fr D _ hD5 off5
              have rl := rA.length
              split at a4
              · rename_i hl
                refine ⟨us, hD6, by rw [sizeLine_eq]; omega, ρ6, hb2, acc ++ [yv], us ++ [v6], (g5.trans s6).tmp hD hD6, R6.off off6 hD6 True.intro, upd_same, off6, ?_, a4⟩
                exact (((rA.go g3).go (s5.trans s6)).app (.one r6)).mono .rfl (.lst hD6)
              · exact a4.elim
            · obtain rfl := r5.bl_
              refine ⟨false, rfl, ?_⟩
              refine itF rfl ?_
              exact ⟨ρ5, hb1, acc, us, g5, R5, hD5, off5, (rA.go g3).go s5, a3⟩
            · exact a3.elim
theorem sl_comp (hc : X.calm = true) (hN : X.N.Nodup) (hi : SI T X W tg iter src) (bk : BlkOk X.N X.env.scope scope own)
    (hg : ∀ (s : Shared) (H : Hp) (C : Addr) (cl : List (Str × Addr)) (fp : List Addr), PG (X.blk s H scope (compEnvC scope cl C X.env) fp) tg g)
    (ok : GOk (sy T X) (own.map (·.2)) g b)
    (ht : ∀ (s : Shared) (H : Hp) (C : Addr) (cl : List (Str × Addr)) (fp : List Addr), STs T (X.blk s H scope (compEnvC scope cl C X.env) fp) W0 ifs tt)
    (he : ∀ (s : Shared) (H : Hp) (C : Addr) (cl : List (Str × Addr)) (fp : List Addr), SE T (X.blk s H scope (compEnvC scope cl C X.env) fp) W0 elt f)
    (hs : ∀ x, foldedSetIterable iter X.env x = pure x := by intro _; rfl) :
    SL T X W (.ListComp elt [⟨tg, iter, ifs, 0⟩] scope pos) (lComp (own.map (·.2)) src b tt f) :=
  (pe_lc hc hN hi bk hg ht he hs).imp fun σ H Q q => lc_imp ok q
/-- name = [..] on one line -/
theorem st_setLc {i : Nat} {y : Str} {py spos : Pos} (hc : X.calm = true) (hN : X.N.Nodup) (hy : X.N[i]? = some y) (hyl : X.env.scope.names.lookup y = some .local)
    (hsw : swapsWith (.ListComp elt [⟨tg, iter, ifs, 0⟩] scope pos) (some (.Name y py)) spos.line X.env = pure true) (hi : SI T X W tg iter src) (bk : BlkOk X.N X.env.scope scope own)
    (hg : ∀ (s : Shared) (H : Hp) (C : Addr) (cl : List (Str × Addr)) (fp : List Addr), PG (X.blk s H scope (compEnvC scope cl C X.env) fp) tg g)
    (ok : GOk (sy T X) (own.map (·.2)) g b)
    (ht : ∀ (s : Shared) (H : Hp) (C : Addr) (cl : List (Str × Addr)) (fp : List Addr), STs T (X.blk s H scope (compEnvC scope cl C X.env) fp) W0 ifs tt)
    (he : ∀ (s : Shared) (H : Hp) (C : Addr) (cl : List (Str × Addr)) (fp : List Addr), SE T (X.blk s H scope (compEnvC scope cl C X.env) fp) W0 elt f)
    (hs : ∀ x, foldedSetIterable iter X.env x = pure x := by intro _; rfl) :
    SSt T X W (.Assign [.Name y py] (.ListComp elt [⟨tg, iter, ifs, 0⟩] scope pos) spos) (sSet i (eNew (lComp (own.map (·.2)) src b tt f))) :=
  (ps_setLc hc hN hy hyl hsw hi bk hg ht he hs).imp fun D σ H q => by
    refine lc_imp (W := W) (tt := tt) (f := f) (Q := fun x H1 => gName i x σ H1 D.nx) ok ?_
    obtain ⟨ρ, e, h, R, E, a⟩ := q
    refine ⟨ρ, e, h, R, E, ?_⟩
    unfold sSet eNew at a
    revert a
    cases lComp (own.map (·.2)) src b tt f e h with
    | ok xs h1 => exact fun a ρ1 p vs H1 s R1 el n z r => a (ρ1 ++ [p]) _ H1 (s.adopt z) (R1.adopt el n r) (((E.go s).mono .app .rfl).set (.ref (by rw [R1.len]; simp)) i)
    | exc c d h1 => exact fun a ρ1 v H1 dx s R1 r x => a ρ1 v σ H1 dx s R1 r (E.go s) x
    | stuck => exact id
end
end Lad
end
/-! ## LadFn -/
section
set_option maxRecDepth 100000
set_option maxHeartbeats 1000000
namespace Lad
open PySem L2
/-! ### equality of data, as it stands -/
mutual
def Val.same : Val → Val → Bool
  | .non, .non => true
  | .bl a, .bl b => a == b
  | .int a, .int b => decide (a = b)
  | .str a, .str b => decide (a = b)
  | .ref a, .ref b => Nat.beq a b
  | .tup a, .tup b => sameL a b
  | .exn a x, .exn b y => Nat.beq a b && x.same y
  | _, _ => false
def sameL : List Val → List Val → Bool
  | [], [] => true
  | x :: xs, y :: ys => x.same y && sameL xs ys
  | _, _ => false
end
mutual
theorem Val.same_eq : ∀ {a b : Val}, a.same b = true → a = b
  | .non, b, h => by cases b <;> first | rfl | (simp [Val.same] at h)
  | .bl a, b, h => by
    cases b <;> simp [Val.same] at h
    rw [h]
  | .int a, b, h => by
    cases b <;> simp [Val.same] at h
    rw [h]
  | .str a, b, h => by
    cases b <;> simp [Val.same] at h
    rw [h]
  | .ref a, b, h => by
    cases b <;> simp [Val.same] at h
    rw [h]
  | .tup a, b, h => by
    cases b <;> simp [Val.same] at h
    rw [sameL_eq h]
  | .exn a x, b, h => by
    cases b <;> simp [Val.same] at h
    rw [h.1, Val.same_eq h.2]
theorem sameL_eq : ∀ {a b : List Val}, sameL a b = true → a = b
  | [], b, h => by cases b <;> first | rfl | (simp [sameL] at h)
  | x :: xs, b, h => by
    cases b with
    | nil => simp [sameL] at h
    | cons y ys =>
      simp only [sameL, Bool.and_eq_true] at h
      rw [Val.same_eq h.1, sameL_eq h.2]
end
mutual
theorem Val.same_rfl : ∀ a : Val, a.same a = true
  | .non => rfl
  | .bl a => by simp [Val.same]
  | .int a => by simp [Val.same]
  | .str a => by simp [Val.same]
  | .ref a => by simp [Val.same]
  | .tup a => by simp only [Val.same]; exact sameL_rfl a
  | .exn a x => by simp [Val.same, Val.same_rfl x]
theorem sameL_rfl : ∀ a : List Val, sameL a a = true
  | [] => rfl
  | x :: xs => by simp only [sameL, Val.same_rfl x, sameL_rfl xs, Bool.and_self]
end
def sameKv : List (Val × Val) → List (Val × Val) → Bool
  | [], [] => true
  | (a, b) :: xs, (c, d) :: ys => a.same c && b.same d && sameKv xs ys
  | _, _ => false
theorem sameKv_eq : ∀ {a b : List (Val × Val)}, sameKv a b = true → a = b
  | [], [], _ => rfl
  | (a, b) :: xs, (c, d) :: ys, h => by
    simp only [sameKv, Bool.and_eq_true] at h
    rw [Val.same_eq h.1.1, Val.same_eq h.1.2, sameKv_eq h.2]
  | [], _ :: _, h => by simp [sameKv] at h
  | _ :: _, [], h => by simp [sameKv] at h
theorem sameKv_rfl : ∀ a : List (Val × Val), sameKv a a = true
  | [] => rfl
  | (a, b) :: xs => by simp only [sameKv, Val.same_rfl, sameKv_rfl xs, Bool.and_self]
def sameFs : List (Nat × Val) → List (Nat × Val) → Bool
  | [], [] => true
  | (a, b) :: xs, (c, d) :: ys => Nat.beq a c && b.same d && sameFs xs ys
  | _, _ => false
theorem sameFs_eq : ∀ {a b : List (Nat × Val)}, sameFs a b = true → a = b
  | [], [], _ => rfl
  | (a, b) :: xs, (c, d) :: ys, h => by
    simp only [sameFs, Bool.and_eq_true] at h
    rw [Nat.eq_of_beq_eq_true h.1.1, Val.same_eq h.1.2, sameFs_eq h.2]
  | [], _ :: _, h => by simp [sameFs] at h
  | _ :: _, [], h => by simp [sameFs] at h
theorem sameFs_rfl : ∀ a : List (Nat × Val), sameFs a a = true
  | [] => rfl
  | (a, b) :: xs => by simp [sameFs, Val.same_rfl, sameFs_rfl xs]
def Ob.same : Ob → Ob → Bool
  | .lst a, .lst b => sameL a b
  | .fro a, .fro b => sameL a b
  | .dcK a, .dcK b => sameKv a b
  | .dcT a, .dcT b => sameKv a b
  | .ins c a, .ins d b => Nat.beq c d && sameFs a b
  | _, _ => false
theorem Ob.same_eq {a b : Ob} (h : a.same b = true) : a = b := by
  cases a <;> cases b <;> simp only [Ob.same, Bool.and_eq_true] at h <;> first | (rw [sameL_eq h]) | (rw [sameKv_eq h]) | (rw [Nat.eq_of_beq_eq_true h.1, sameFs_eq h.2]) | cases h
theorem Ob.same_rfl (a : Ob) : a.same a = true := by
  cases a <;> simp [Ob.same, sameL_rfl, sameKv_rfl, sameFs_rfl]
/-- the second one begins with the first one -/
def begins : Hea → Hea → Bool
  | [], _ => true
  | a :: as, b :: bs => a.same b && begins as bs
  | _ :: _, [] => false
theorem begins_eq : ∀ {h h' : Hea}, begins h h' = true → ∃ t, h' = h ++ t
  | [], h', _ => ⟨h', rfl⟩
  | a :: as, b :: bs, e => by
    simp only [begins, Bool.and_eq_true] at e
    obtain ⟨t, q⟩ := begins_eq e.2
    exact ⟨t, by rw [Ob.same_eq e.1, q]; rfl⟩
  | _ :: _, [], e => by simp [begins] at e
theorem begins_app : ∀ (h t : Hea), begins h (h ++ t) = true
  | [], _ => rfl
  | a :: as, t => by simp only [List.cons_append, begins, Ob.same_rfl, begins_app as t, Bool.and_self]
theorem begins_rfl (h : Hea) : begins h h = true := by
  have := begins_app h []
  rwa [List.append_nil] at this
mutual
def Val.flat : Val → Bool
  | .tup xs => flatL xs
  | .ref _ => false
  | .exn _ _ => false
  | _ => true
def flatL : List Val → Bool
  | [] => true
  | x :: xs => x.flat && flatL xs
end
mutual
theorem Rep.flat {S : Sy} {ρ ρ' : List Addr} {H : Hp} : ∀ {d : Val} {v : V}, d.flat = true → Rep S ρ H d v → Rep S ρ' H d v
  | _, _, _, .non => .non
  | _, _, _, .bl b => .bl b
  | _, _, _, .int i => .int i
  | _, _, _, .str z => .str z
  | _, _, h, .tup s r => .tup s (Reps.flat (by simpa [Val.flat] using h) r)
  | _, _, h, .ref _ => by simp [Val.flat] at h
  | _, _, h, .exn _ _ _ => by simp [Val.flat] at h
theorem Reps.flat {S : Sy} {ρ ρ' : List Addr} {H : Hp} : ∀ {ds : List Val} {vs : List V}, flatL ds = true → Reps S ρ H ds vs → Reps S ρ' H ds vs
  | _, _, _, .nil => .nil
  | _, _, h, .cons r t => by
    simp only [flatL, Bool.and_eq_true] at h
    exact .cons (Rep.flat h.1 r) (Reps.flat h.2 t)
end
/-- what was told by names of ρ is told by them still -/
theorem Sub.back {ρ ρ' : List Addr} (s : Sub ρ ρ') {i : Nat} {a b : Addr} (e : ρ[i]? = some a) (e' : ρ'[i]? = some b) : ρ[i]? = some b := by
  have := s i a e
  rw [e'] at this
  cases this
  exact e
mutual
theorem Rep.back {S : Sy} {ρ ρ' : List Addr} {H H' : Hp} (s : Sub ρ ρ') : ∀ {d : Val} {v u : V}, Rep S ρ H d v → Rep S ρ' H' d u → Rep S ρ H' d u
  | _, _, _, .non, .non => .non
  | _, _, _, .bl b, .bl _ => .bl b
  | _, _, _, .int i, .int _ => .int i
  | _, _, _, .str z, .str _ => .str z
  | _, _, _, .tup _ r, .tup q t => .tup q (Reps.back s r t)
  | _, _, _, .ref h, .ref q => .ref (s.back h q)
  | _, _, _, .exn _ _ r, .exn h1 h2 q => .exn h1 h2 (Rep.back s r q)
theorem Reps.back {S : Sy} {ρ ρ' : List Addr} {H H' : Hp} (s : Sub ρ ρ') : ∀ {d : List Val} {v u : List V}, Reps S ρ H d v → Reps S ρ' H' d u → Reps S ρ H' d u
  | _, _, _, .nil, .nil => .nil
  | _, _, _, .cons r t, .cons q w => .cons (Rep.back s r q) (Reps.back s t w)
end
theorem KvR.back {S : Sy} {ρ ρ' : List Addr} {H H' : Hp} {κ : Type} {kd : κ → Val} (s : Sub ρ ρ') : ∀ {d : List (Val × Val)} {v u : List (κ × V)}, KvR S ρ H kd d v → KvR S ρ' H' kd d u → KvR S ρ H' kd d u
  | _, _, u, .nil, w => by cases w; exact .nil
  | _, _, u, .cons (k := k) r t, w => by
    generalize hk : kd k = kk at w
    cases w with
    | cons q w => exact .cons (Rep.back s r q) (KvR.back s t w)
theorem FsR.back {S : Sy} {ρ ρ' : List Addr} {H H' : Hp} (s : Sub ρ ρ') : ∀ {d : List (Nat × Val)} {v u : List (Str × V)}, FsR S ρ H d v → FsR S ρ' H' d u → FsR S ρ H' d u
  | _, _, _, .nil, .nil => .nil
  | _, _, _, .cons r t, .cons q w => .cons (Rep.back s r q) (FsR.back s t w)
theorem ObR.back {S : Sy} {ρ ρ' : List Addr} {H H' : Hp} (s : Sub ρ ρ') {o : Ob} {a b : Addr} (r : ObR S ρ H o a) (q : ObR S ρ' H' o b) : ObR S ρ H' o b := by
  cases r with
  | lst h1 h2 => cases q with | lst h3 h4 => exact .lst h3 (h2.back s h4)
  | fro h1 h2 => cases q with | fro h3 h4 => exact .fro h3 (h2.back s h4)
  | dcK h1 h2 => cases q with | dcK h3 h4 => exact .dcK h3 (h2.back s h4)
  | dcT h1 h2 => cases q with | dcT h3 h4 => exact .dcT h3 (h2.back s h4)
  | ins h1 h2 => cases q with | ins h3 h4 => exact .ins h3 (h2.back s h4)
/-- what a call has made may be forgotten -/
theorem Rel.back {S : Sy} {ρ ρ' : List Addr} {H H' : Hp} {h t : Hea} (R : Rel S ρ h H) (s : Sub ρ ρ') (R' : Rel S ρ' (h ++ t) H') : Rel S ρ h H' := by
  refine ⟨R.len, R.inj, fun i o a e1 e2 => ?_⟩
  have hi := (List.getElem?_eq_some_iff.mp e1).1
  have e1' : (h ++ t)[i]? = some o := by rw [List.getElem?_append_left hi]; exact e1
  exact (R.ob i o a e1 e2).back s (R'.ob i o a e1' (s _ _ e2))
/-- the end of a call: garbage is dropped where nothing old was changed and the answer holds none of it -/
def fin (h : Hea) (d : Val) (h' : Hea) : Res Val := if begins h h' = true then
    (if d.flat = true then .ok d h else match d with
      | .ref i => match h'[i]? with
        | some (.lst xs) => if flatL xs = true ∧ h.length ≤ i then .ok (.ref h.length) (h ++ [.lst xs]) else .ok d h'
        | _ => .ok d h'
      | _ => .ok d h')
  else .ok d h'
theorem Aft.fin {S : Sy} {ρ : List Addr} {H : Hp} {h h' : Hea} {d : Val} {Q : VK} {W : XK} (R : Rel S ρ h H) (a : Aft S ρ H (Lad.fin h d h') Q W) : Aft S ρ H (.ok d h') Q W := by
  unfold Lad.fin at a
  split at a
  · rename_i hb
    obtain ⟨t, rfl⟩ := begins_eq hb
    split at a
    · rename_i hf
      intro ρ1 v H1 s R1 r
      exact a ρ v H1 ⟨.rfl, s.kp, s.fr, fun i _ z => .inl ⟨i, z⟩⟩ (R.back s.sub R1) (r.flat hf)
    · split at a
      · rename_i i _
        split at a
        · rename_i xs hx
          split at a
          · rename_i hfl
            intro ρ1 v H1 s R1 r
            obtain ⟨p, rfl, ep⟩ := r.ref_
            have o := R1.ob i _ p hx ep
            cases o with
            | lst h1 h2 =>
              have Rb := R.back s.sub R1
              have off : Off ρ p := fun j z => by
                have := R1.inj j i p (s.sub _ _ z) ep
                subst this
                have := (List.getElem?_eq_some_iff.mp z).1
                rw [← R.len] at this
                omega
              have hp : H p = none := by
                rcases s.nw i p ep with ⟨j, z⟩ | z
                · exact (off j z).elim
                · exact z
              have g1 : Go S ρ H ρ H1 := ⟨.rfl, s.kp, s.fr, fun i _ z => .inl ⟨i, z⟩⟩
              exact a (ρ ++ [p]) _ H1 (g1.adopt hp) (Rb.adopt h1 off (h2.flat hfl.1)) (.ref (by rw [R.len]; simp))
          · exact a
        · exact a
      · exact a
  · exact a
/-! ### defs -/
def startE (n : Nat) (ds : List Val) : En := ds.map some ++ List.replicate (n - ds.length) none
def runB (np ns : Nat) (body : En → Hea → SRes) (ds : List Val) (h : Hea) : Res Val := if ds.length = np then
    (match body (startE ns ds) h with
      | .rt d h' => fin h d h'
      | .nx _ h' => fin h .non h'
      | .exc c d _ h' => if (begins h h' && d.flat) = true then .exc c d h else .exc c d h'
      | _ => .stuck)
  else .stuck
def spEv (S : Sy) (cf : List Val → Hea → Res Val) : Sp := fun vs H Q E => ∃ ρ h ds, Rel S ρ h H ∧ Reps S ρ H ds vs ∧ Aft S ρ H (cf ds h) Q E
theorem ER.start {S : Sy} {ρ : List Addr} {H : Hp} {n : Nat} : ∀ {ds : List Val} {vs : List V}, Reps S ρ H ds vs → ER S ρ H (ds.map some ++ List.replicate n none) (vs.map some ++ List.replicate n none)
  | _, _, .nil => by
    induction n with
    | zero => exact .nil
    | succ n ih => exact .cons (fun x e => nomatch e) ih
  | _, _, .cons r t => .cons (fun x e => ⟨_, rfl, by cases e; exact r⟩) (ER.start t)
theorem runB_ok {S : Sy} {np : Nat} {N : List Str} {fb : En → Hea → SRes} {vs : List V} {H : Hp} {Q : VK} {E : XK} (q : spEv S (runB np N.length fb) vs H Q E) :
    vs.length = np ∧ tS S (fun c d _ H' => E c d H') fb { nx := fun _ H' => Q .non H', rt := Q } (L2.start N vs) H := by
  obtain ⟨ρ, h, ds, R, r, a⟩ := q
  unfold runB at a
  split at a
  · rename_i hl
    refine ⟨by rw [← r.length]; exact hl, ρ, startE N.length ds, h, R, ?_, ?_⟩
    · unfold startE L2.start
      rw [← r.length]
      exact ER.start r
    · revert a
      cases fb (startE N.length ds) h with
      | nx e h' => exact fun a ρ1 σ1 H1 s R1 E1 => Aft.fin R a ρ1 .non H1 s R1 .non
      | rt d h' => exact fun a ρ1 v H1 s R1 r1 => Aft.fin R a ρ1 v H1 s R1 r1
      | bk e h' => exact fun a => a.elim
      | ct e h' => exact fun a => a.elim
      | stuck => exact fun a => a
      | exc c d e h' =>
        intro a ρ1 v σ1 H1 dx s R1 r1 E1 x
        dsimp only at a
        split at a
        · rename_i hb
          rw [Bool.and_eq_true] at hb
          obtain ⟨t, rfl⟩ := begins_eq hb.1
          exact a ρ v H1 dx ⟨.rfl, s.kp, s.fr, fun i _ z => .inl ⟨i, z⟩⟩ (R.back s.sub R1) (r1.flat hb.2) x
        · exact a ρ1 v H1 dx s R1 r1 x
  · exact a.elim
/-- a def keeps its promise -/
theorem fn_ok {P : Program} {w : World} {K : PySem.W.Frag} {mg : Str → Option Value} {base : Heap} {T : Tb} {x qual : Str} {st : Stmt} {f : Addr} {fd : FuncData} {N ps : List Str} {k : Nat} {fb : En → Hea → SRes}
    (F : Fun K x qual st f fd) (Sc : FnScope N ps (defScope st))
    (hb : ∀ (cdv : Value) (A : Around) (outer : List Env) (s : Shared) (H : Hp) (E : XK), Room k (A.deeper (PyProof.Rows.envOfC qual (defScope st) s.heap.objs.size f cdv)) →
      SSs T (cxOf (L2.CX P w) P w K mg base N qual (defScope st) f cdv A outer s H E) (fun c d _ H' => E c d H') (defBody st) fb) :
    FnOk P w K mg base (L2.CX P w) (k + 1) f fd ps (spEv ⟨K, T.ca, T.nm, T.fld, T.ex⟩ (runB ps.length N.length fb)) :=
  F.okX Sc (fun vs H Q E q => (runB_ok q).1) fun cdv A outer s H vs Q E hr q => ⟨_, hb cdv A outer s H E hr, (runB_ok q).2⟩
def eCall (cf : List Val → Hea → Res Val) (g : En → Hea → Res (List Val)) : En → Hea → Res Val := fun e h => (g e h).bind cf
section
variable {T : Tb} {X : Cx} {W : WX} {x : Str} {f : Addr} {fd : FuncData} {ps : List Str} {k : Nat} {cf : List Val → Hea → Res Val} {e : Expr} {es : List Expr} {g : En → Hea → Res (List Val)} {p pos : Pos}
theorem se_call (F : FnOk X.prog X.w X.K X.mg X.base (L2.CX X.prog X.w) k f fd ps (spEv (sy T X) cf)) (hr : Room k X.A) (hg : Gl X x) (hm : X.mg x = some (.ref f)) (hk : PySem.W.keepIn X.K (.ref f) = true) (hb : Binds X.K fd ps []) (tk : Takes X W)
    (ha : SA T X W (e :: es) g) (hdb : (x == ("__debug__" : Str)) = false := by decide) (he : starEach (e :: es) X.env = (false, eval e X.env) :: starEach es X.env := by rfl) (hpl : (backTo pos (starEach es X.env)).any (·.1) = false := by rfl) :
    SE T X W (.Call (.Name x p) (e :: es) [] pos) (eCall cf g) :=
  (pe_callS (E := fun σ => WE W σ) F hr hg hm hk hb (fun σ => passAt tk σ) ha hdb he hpl).imp fun σ H Q q => by
    obtain ⟨ρ, e, h, R, E, a⟩ := q
    exact ⟨ρ, e, h, R, E, (AftA.bind a).mono fun vs H1 ⟨ρ1, ds, h1, s, R1, r1, a1⟩ => ⟨ρ1, h1, ds, R1, r1, a1⟩⟩
end
end Lad
end
/-! ## LadMore -/
section
set_option maxRecDepth 100000
set_option maxHeartbeats 1000000
namespace Lad
open PySem L2
section
variable {T : Tb} {X : Cx} {W : WX} {a b c : Expr} {f1 f2 f3 : En → Hea → Res Val} {pos : Pos}
theorem se_chain2 {op op' : CmpOp} {g g' : Hea → Val → Val → Option Val} (ho : OpR X (compareOp op) (rB (sy T X) g)) (ho' : OpR X (compareOp op') (rB (sy T X) g')) (ha : SE T X W a f1) (hb : SE T X W b f2) (hc : SE T X W c f3)
    (hm : lastMarks [op, op'] [b, c] = false := by with_unfolding_all rfl) : SE T X W (.Compare a [op, op'] [b, c] pos) (eChain g g' f1 f2 f3) := (pe_chain ho ho' ha hb hc hm).imp fun σ H Q q => chain_imp q
theorem st_chain2 {op op' : CmpOp} {g g' : Hea → Val → Val → Option Val} (ho : OpR X (compareOp op) (rB (sy T X) g)) (ho' : OpR X (compareOp op') (rB (sy T X) g')) (ha : SE T X W a f1) (hb : SE T X W b f2) (hc : SE T X W c f3)
    (hm : lastMarks [op, op'] [b, c] = false := by with_unfolding_all rfl) : ST T X W (.Compare a [op, op'] [b, c] pos) (eChain g g' f1 f2 f3) := (pt_chain ho ho' ha hb hc hm).imp fun σ H Q q => chain_imp q
end
theorem u65 {A : Around} {k : Nat} (hr : Room k A) : A.units + 65 < cLine := by have := hr.un; omega
/-- a built-in class by its name -/
theorem ty_of {X : Cx} {x : Str} {n : String} {pos : Pos} (hm : X.mg x = none) (hv : bootBuiltins x = some (.type n)) (hg : Gl X x := by rfl) (hn : x ≠ "__name__" := by decide) (hd : (x == ("__debug__" : Str)) = false := by decide) : PE X (.Name x pos) (tC (.ty n)) := pe_bltn hg hm hv rfl hn hd
section
variable {T : Tb} {X : Cx} {W : WX} {x : Str} {id : String} {n : String} {a e : Expr} {es : List Expr} {f : En → Hea → Res Val} {g : En → Hea → Res (List Val)} {p pos : Pos}
/-- a built-in def of plain arguments -/
theorem se_cb {r : Hea → List Val → Option Val} (hc : CallR X (.builtin id) (rC (sy T X) r)) (hm : X.mg x = none) (hv : bootBuiltins x = some (.builtin id)) (ha : SA T X W (e :: es) g) (hg : Gl X x := by rfl) (hn : x ≠ "__name__" := by decide) (hdb : (x == ("__debug__" : Str)) = false := by decide)
    (he : starEach (e :: es) X.env = (false, eval e X.env) :: starEach es X.env := by rfl) (hpl : (backTo pos (starEach es X.env)).any (·.1) = false := by rfl) : SE T X W (.Call (.Name x p) (e :: es) [] pos) (eCB r g) :=
  (pe_callB hc hg hm hv ha hn hdb he hpl).imp fun σ H Q q => cb_imp q
theorem se_ct {r : Hea → List Val → Option Val} (hc : CallR X (.type n) (rC (sy T X) r)) (hm : X.mg x = none) (hv : bootBuiltins x = some (.type n)) (ha : SA T X W (e :: es) g) (hg : Gl X x := by rfl) (hn : x ≠ "__name__" := by decide) (hdb : (x == ("__debug__" : Str)) = false := by decide)
    (he : starEach (e :: es) X.env = (false, eval e X.env) :: starEach es X.env := by rfl) (hpl : (backTo pos (starEach es X.env)).any (·.1) = false := by rfl) : SE T X W (.Call (.Name x p) (e :: es) [] pos) (eCB r g) :=
  (pe_callTy hc hg hm hv ha hn hdb he hpl).imp fun σ H Q q => cb_imp q
/-- of a list or tuple that is a value; of a list made for it -/
theorem se_it {r : List Val → Option Val} (hc : CallR X (.builtin id) (rIt (sy T X) r)) (hm : X.mg x = none) (hv : bootBuiltins x = some (.builtin id)) (ha : SE T X W a f) (hg : Gl X x := by rfl) (hn : x ≠ "__name__" := by decide) (hdb : (x == ("__debug__" : Str)) = false := by decide)
    (he : starEach [a] X.env = (false, eval a X.env) :: starEach [] X.env := by rfl) : SE T X W (.Call (.Name x p) [a] [] pos) (eIt r f) :=
  (pe_callB hc hg hm hv (pa_cons ha pa_nil he) hn hdb he rfl).imp fun σ H Q q => it_imp q
theorem se_itL {r : List Val → Option Val} (hc : CallR X (.builtin id) (rIt (sy T X) r)) (hm : X.mg x = none) (hv : bootBuiltins x = some (.builtin id)) (ha : SL T X W a g) (hg : Gl X x := by rfl) (hn : x ≠ "__name__" := by decide) (hdb : (x == ("__debug__" : Str)) = false := by decide)
    (he : starEach [a] X.env = (false, eval a X.env) :: starEach [] X.env := by rfl) : SE T X W (.Call (.Name x p) [a] [] pos) (eItL r g) :=
  (pe_callB hc hg hm hv (pa_cons ha pa_nil he) hn hdb he rfl).imp fun σ H Q q => itL_imp q
theorem se_il {r : List Val → Option Val} (hc : CallR X (.builtin id) (rIl (sy T X) r)) (hm : X.mg x = none) (hv : bootBuiltins x = some (.builtin id)) (ha : SE T X W a f) (hg : Gl X x := by rfl) (hn : x ≠ "__name__" := by decide) (hdb : (x == ("__debug__" : Str)) = false := by decide)
    (he : starEach [a] X.env = (false, eval a X.env) :: starEach [] X.env := by rfl) : SE T X W (.Call (.Name x p) [a] [] pos) (eIl r f) :=
  (pe_callB hc hg hm hv (pa_cons ha pa_nil he) hn hdb he rfl).imp fun σ H Q q => il_imp q
theorem se_ilL {r : List Val → Option Val} (hc : CallR X (.builtin id) (rIl (sy T X) r)) (hm : X.mg x = none) (hv : bootBuiltins x = some (.builtin id)) (ha : SL T X W a g) (hg : Gl X x := by rfl) (hn : x ≠ "__name__" := by decide) (hdb : (x == ("__debug__" : Str)) = false := by decide)
    (he : starEach [a] X.env = (false, eval a X.env) :: starEach [] X.env := by rfl) : SE T X W (.Call (.Name x p) [a] [] pos) (eItL r g) :=
  (pe_callB hc hg hm hv (pa_cons ha pa_nil he) hn hdb he rfl).imp fun σ H Q q => ilL_imp q
theorem se_tit {r : List Val → Option Val} (hc : CallR X (.type n) (rIt (sy T X) r)) (hm : X.mg x = none) (hv : bootBuiltins x = some (.type n)) (ha : SE T X W a f) (hg : Gl X x := by rfl) (hn : x ≠ "__name__" := by decide) (hdb : (x == ("__debug__" : Str)) = false := by decide)
    (he : starEach [a] X.env = (false, eval a X.env) :: starEach [] X.env := by rfl) : SE T X W (.Call (.Name x p) [a] [] pos) (eIt r f) :=
  (pe_callTy hc hg hm hv (pa_cons ha pa_nil he) hn hdb he rfl).imp fun σ H Q q => it_imp q
theorem se_titL {r : List Val → Option Val} (hc : CallR X (.type n) (rIt (sy T X) r)) (hm : X.mg x = none) (hv : bootBuiltins x = some (.type n)) (ha : SL T X W a g) (hg : Gl X x := by rfl) (hn : x ≠ "__name__" := by decide) (hdb : (x == ("__debug__" : Str)) = false := by decide)
    (he : starEach [a] X.env = (false, eval a X.env) :: starEach [] X.env := by rfl) : SE T X W (.Call (.Name x p) [a] [] pos) (eItL r g) :=
  (pe_callTy hc hg hm hv (pa_cons ha pa_nil he) hn hdb he rfl).imp fun σ H Q q => itL_imp q
/-- list(x): a new list -/
def lOf (f : En → Hea → Res Val) : En → Hea → Res (List Val) := fun e h => (f e h).bind fun d h1 => match itemsOf h1 d with
  | some xs => .ok xs h1
  | none => .stuck
theorem sl_list (hm : X.mg "list" = none) (ha : SE T X W a f) (hg : Gl X "list" := by rfl) (he : starEach [a] X.env = (false, eval a X.env) :: starEach [] X.env := by rfl) : SL T X W (.Call (.Name "list" p) [a] [] pos) (lOf f) :=
  (pe_callTy call_list_of hg hm (by decide +kernel) (pa_cons ha pa_nil he) (he := he) (hpl := rfl)).imp fun σ H Q q => by
    obtain ⟨ρ, e, h, R, E, a⟩ := q
    refine ⟨ρ, e, h, R, E, (AftL.bind1 a).mono fun v H1 ⟨ρ1, d, h1, s, R1, r1, a1⟩ => ?_⟩
    split at a1
    · rename_i xs hx
      obtain ⟨p, us, rfl, sq, rr⟩ := items_sq R1 r1 hx
      exact ⟨p, us, rfl, sq.symm, fun l n => a1.made R1 rr l n⟩
    · exact a1.elim
/-! slices of lists -/
def oInt : Val → Option Int
  | .int i => some i
  | _ => none
def lSlice (f : En → Hea → Res Val) (lo hi : Option (En → Hea → Res Val)) : En → Hea → Res (List Val) := fun e h => (f e h).bind fun d h1 => match itemsOf h1 d with
  | some xs => (match lo with
      | none => .ok none h1
      | some g => (g e h1).bind fun i h2 => match i with | .int i => .ok (some i) h2 | _ => .stuck : Res (Option Int)).bind fun l h2 =>
      (match hi with
      | none => .ok none h2
      | some g => (g e h2).bind fun i h3 => match i with | .int i => .ok (some i) h3 | _ => .stuck : Res (Option Int)).bind fun u h3 =>
        .ok ((xs.drop (HT.sIx xs.length 0 l)).take (HT.sIx xs.length xs.length u - HT.sIx xs.length 0 l)) h3
  | none => .stuck
end
end Lad
end
/-! ## LadExc -/
section
set_option maxRecDepth 100000
set_option maxHeartbeats 2000000
namespace Lad
open PySem PySem.W PySem.Calls PyProof.Rows PySem.HandSPX
open L2 (defArgs defBody defScope)
/-! ### own errors: def __init__(self, f): super().__init__('..'); self.f = f -/
def exB (txt fld : Str) (j : Nat) (a1 a2 a3 a4 a5 a6 b1 b2 b3 b4 : Pos) : List Stmt :=
  [.Expr (.Call (.Attribute (.Call (.Name "super" a1) [] [] a2) "__init__" a3) [.Constant (.str txt) j a4] [] a5) a6, .Assign [.Attribute (.Name "self" b1) fld b2] (.Name fld b3) b4]
structure InitOk (st : Stmt) (fld : Str) : Prop where
  body : ∃ txt j a1 a2 a3 a4 a5 a6 b1 b2 b3 b4, defBody st = exB txt fld j a1 a2 a3 a4 a5 a6 b1 b2 b3 b4 ∧ ∀ env : Env, ∃ pl : Sem Bool,
    eval (.Call (.Attribute (.Call (.Name "super" a1) [] [] a2) "__init__" a3) [.Constant (.str txt) j a4] [] a5) env = (do
      let ov ← attributeBase (.Call (.Name "super" a1) [] [] a2) "__init__" env (eval (.Call (.Name "super" a1) [] [] a2) env)
      standAt a3.atName
      let (f, first) ← holding [ov] (getMethod ov "__init__" pl)
      callWith a5 f first (backTo a5 (starEach [.Constant (.str txt) j a4] env)) [])
  par : ∃ an p, ((defArgs st).posonlyargs ++ (defArgs st).args).head? = some { arg := "self", annotation := an, pos := p }
  cell : ∀ x ∈ (defScope st).names, x.2 ≠ .cell
  co : (defScope st).isCoroutine = false
  gen : (defScope st).isGenerator = false
  kind : (defScope st).kind = .function
  ls : (defScope st).names.lookup ("self" : Str) = some .local
  lf : (defScope st).names.lookup fld = some .local
  lsu : (defScope st).names.lookup ("super" : Str) = some .globalImplicit
  lc : (defScope st).names.lookup ("__class__" : Str) = some .free
  ne : fld ≠ "self"
  nd : (fld == ("__debug__" : Str)) = false
/-- what the written part says of the class at C (its __init__ at fI, the cell of its class at cc, its code at cda) -/
structure ExTxt (P : Program) (K : Frag) (st : Stmt) (C fI cc cda : Addr) (fd : FuncData) (B newId initId : String) (bmB : List Value) (fld : Str) : Prop where
  kxs : KxsFacts B initId
  eb : ExcBaseFacts B newId initId bmB
  sf : StoreFacts B bmB "object.__setattr__" "object"
  ini : InitOk st fld
  ei : excInitIn K C bmB newId = true
  ov : excOver K C bmB = true
  sa : findIn K (.ref C) "__setattr__" = some (some (.builtin "object.__setattr__"))
  tkr : takerIn K C fld = some none
  iC : findIn K (.ref C) "__init__" = some (some (.ref fI))
  tC : typeIn K (.ref fI) = some (.type "function")
  kC : keepIn K (.ref C) = true
  exC : subIn K (.ref C) (.type "BaseException") = some true
  exB : subIn K (.ref C) (.type B) = some true
  tyC : typeIn K (.ref C) = some (.type "type")
  hdC : hasDictIn K C = true
  mro : mroIn K C (.ref C) = some true
  sup : nsIn K mainGlobals "super" = some none
  opq : nsIn K cStatics "thirdparty.any" = some none
  alo : ks_superIn K C C "__init__" = some (some (.builtin initId))
  fn : ∃ (qual : Str) (oc dV kV doc pm ct : Value) (od an : Option Addr) (osl : Array (Option Value)), fd = ksFn "__init__" qual (defArgs st) (defBody st) (defScope st) dV kV doc pm an (.ref cda) ct cc ∧ K.lookup fI = some ⟨oc, od, .func fd, osl⟩ ∧ codeIn K (.ref cda) qual = true
  bnd : ∀ (s : Shared) (x : Addr) (v : Value), BindsTo s fd ⟨[.ref x, v], []⟩ [("self", .ref x), (fld, v)]
  code : ∃ (ccl : Value) (cdd : Option Addr) (vs : Array Value) (ccs : Array (Option Value)) (file : Str) (tf : Tok), K.lookup cda = some ⟨ccl, cdd, .fields vs, ccs⟩ ∧ vs[2]? = some (.str file tf) ∧ ((P.main.file : Str) == file) = true
  clc : ∃ (cl : Value) (cld : Option Addr) (csl : Array (Option Value)), K.lookup cc = some ⟨cl, cld, .cell (some (.ref C)), csl⟩
  top : (P.main.scope.names.lookup ("super" : Str)).isSome = false
/-- what __init__ leaves of a fresh exception at x -/
structure XInit (h h' : Heap) (x C dx t1 : Addr) (fld : Str) (v : Value) : Prop where
  keep : ∀ b o, b ≠ x → h.get? b = some o → h'.get? b = some o
  obj : h'.get? x = some { cls := .ref C, dict := some dx, data := .fields #[.ref t1, .none, .none, .none, .bool false, .none] }
  dbig : h.objs.size ≤ dx
  dne : dx ≠ x
  ns : h'.Ns1 dx (fun y => if y = fld then some v else none)
section
variable {P : Program} {w : World} {A : Around} {E : Value → Shared → Prop} {R : Result → Shared → Prop} {s : Shared} {K : Frag} {mg : Str → Option Value} {st : Stmt} {C fI cc cda : Addr} {fd : FuncData} {B newId initId : String} {bmB : List Value} {fld : Str}
/-- self.f = v on a fresh exception -/
theorem xc_store {x t : Addr} {v : Value} {Q : Unit → Shared → Prop} (T : ExTxt P K st C fI cc cda fd B newId initId bmB fld) (X : K.In s.heap) (hx : s.heap.get? x = some (excObj C t none .none))
    (hq : ∀ h' tk dx, (∀ b o, b ≠ x → s.heap.get? b = some o → h'.get? b = some o) → s.heap.objs.size ≤ dx → dx ≠ x → h'.get? x = some (excObj C t (some dx) .none) → h'.Ns1 dx (fun y => if y = fld then some v else none) → Q () { s with heap := h', toks := tk }) :
    wpAny (model P w) A (setAttr (.ref x) fld v) Q E s := by
  refine set_plain (od := none) X ⟨hx, rfl, rfl, trivial⟩ T.sa ?_
  obtain ⟨hp, g, d, tk0, os⟩ := s
  refine osa_openX (od := none) T.sf X ⟨hx, rfl, rfl, trivial⟩ T.ov T.tkr fun b => ?_
  obtain ⟨cd, hc, hd'⟩ : ∃ cd, clsIn K C = some cd ∧ cd.hasDict = true := by
    have := T.hdC
    unfold hasDictIn at this
    cases e : clsIn K C with
    | none => rw [e] at this; simp at this
    | some cd => rw [e] at this; exact ⟨cd, rfl, by simpa using this⟩
  have hxs : x ≠ hp.objs.size := Nat.ne_of_lt (Heap.lt_size hx)
  refine wpAny_bind (wpAny_pure (wpAny_bind (instanceDict_exc hx (looks_clsIn X hc) hd' ?_)))
  refine store_in_new ⟨dictOf [] 0, #[], 0, (Heap.get?_update_other _ _ hxs).trans (Heap.get?_push_at rfl rfl), rfl, fun e he => absurd he (by simp), fun _ => rfl⟩ fun h' tk' hn' hs => ?_
  have e1 : ((hp.push (dictOf [] 0)).update x fun o => { o with dict := some hp.objs.size }).get? x = some (excObj C t (some hp.objs.size) .none) := Heap.get?_update_self _ (Heap.get?_push_of_some _ hx) rfl
  exact hq h' tk' hp.objs.size (fun b o hb ho => (hs.2 b (Nat.ne_of_lt (Heap.lt_size ho))).trans ((Heap.get?_update_other _ _ (Ne.symm hb)).trans (Heap.get?_push_of_some _ ho))) (Nat.le_refl _) hxs.symm ((hs.2 x hxs).trans e1) hn'
/-- __init__ runs -/
theorem xc_init (T : ExTxt P K st C fI cc cda fd B newId initId bmB fld) {x t0 : Addr} {v : Value} (X : K.In s.heap) (hg : s.heap.Ns mainGlobals mg) (hbt : ∃ mb, s.heap.Ns builtinsNs mb ∧ ∀ x : Str, x ≠ "__name__" → mb x = bootBuiltins x) (hlim : s.heap.NoLimit)
    (hx : s.heap.get? x = some (excObj C t0 none .none)) (hnx : K.lookup x = none) (hroom : A.depth < recursionLimit)
    (hq : ∀ h' tk dx t1, XInit s.heap h' x C dx t1 fld v → R (.ok (.ret .none)) { s with heap := h', toks := tk }) :
    codeAny (model P w) A (.call (.ref fI) ⟨[.ref x, v], []⟩) R s := by
  obtain ⟨qual, oc, dV, kV, doc, pm, ct, od, an, osl, rfl, hfI, hcd⟩ := T.fn
  obtain ⟨ccl, cdd, vs, ccs, file, tf, hcode, hvs, hfile⟩ := T.code
  obtain ⟨cl, cld, csl, hcell⟩ := T.clc
  obtain ⟨txt, j, a1, a2, a3, a4, a5, a6, b1, b2, b3, b4, hbody, hev⟩ := T.ini.body
  obtain ⟨pan, pp, hpar⟩ := T.ini.par
  refine ks_codeAny_call_defAt (binds := [("self", .ref x), (fld, v)]) hroom (X _ _ hfI) rfl hlim (codeRec_of X hcd) rfl (T.bnd s x v) T.ini.cell (fun y hy => ?_) (fun h₁ hn k₁ => ?_) T.ini.co T.ini.gen T.ini.kind
  · rcases List.mem_cons.mp hy with rfl | hy
    · exact T.ini.ls
    · rcases List.mem_cons.mp hy with rfl | hy
      · exact T.ini.lf
      · cases hy
  obtain ⟨hp, g, d, tk, os⟩ := s
  have X₁ : K.In h₁ := X.keeps k₁
  have hx₁ := k₁ _ _ hx
  have hxL : x ≠ hp.objs.size := Nat.ne_of_lt (Heap.lt_size hx)
  obtain ⟨mb, hb0, hbm⟩ := hbt
  obtain ⟨cdC, hcC⟩ : ∃ cd, clsIn K C = some cd := by
    have := T.hdC
    unfold hasDictIn at this
    cases e : clsIn K C with
    | none => rw [e] at this; simp at this
    | some cd => exact ⟨cd, rfl⟩
  obtain ⟨oD, hD1, hD2⟩ : ∃ oD, h₁.get? C = some oD ∧ oD.data = .cls cdC := by
    have hcC' := hcC
    unfold clsIn at hcC'
    split at hcC'
    · rename_i c d cd' sl ho
      cases hcC'
      exact ⟨_, X₁ _ _ ho, rfl⟩
    · cases hcC'
  have hself : ([("self", Value.ref x), (fld, v)] : List (Str × Value)).reverse.lookup ("self" : Str) = some (Value.ref x) := by
    have e : (("self" : Str) == fld) = false := by simpa using Ne.symm T.ini.ne
    simp [List.lookup, e]
  have hfld : ([("self", Value.ref x), (fld, v)] : List (Str × Value)).reverse.lookup fld = some v := by simp [List.lookup]
  rw [hbody]
  show PySem.wpAt _ _ (.func _ (ksEnv qual (defScope st) hp.objs.size fI (.ref cda) cc)) (execs _ (ksEnv qual (defScope st) hp.objs.size fI (.ref cda) cc)) _ _ _
  obtain ⟨pl, hev⟩ := hev (ksEnv qual (defScope st) hp.objs.size fI (.ref cda) cc)
  refine ks_wpAt_execs_cons (ks_wpAt_Expr_any (ks_wpAt_MethodCall (pl := pl) ?_ hev) (by simp [interactive, T.ini.kind]))
  refine ks_wpAt_super_base (env := ksEnv qual (defScope st) hp.objs.size fI (.ref cda) cc) T.ini.lsu T.ini.lc (by decide) rfl (X₁ _ _ hfI) rfl hpar rfl (X₁ _ _ hcode) rfl hvs hfile T.top ?_
  refine ks_loadName_global T.ini.kind T.ini.lsu (loadGlobal_builtin (env := ksEnv qual (defScope st) hp.objs.size fI (.ref cda) cc) (hg.keeps k₁) (mg_none_of X hg T.sup) (hb0.keeps k₁) ((hbm _ (by decide +kernel)).trans (by decide +kernel)) ⟨rfl, ?_⟩)
  refine wpAny_loadName_free T.ini.kind T.ini.lc rfl ⟨_, X₁ _ _ hcell, rfl⟩ ?_
  refine wpAny_loadName_local T.ini.kind T.ini.ls hn hself ?_
  refine ks_wpAny_isType_cls hD1 hD2 ⟨rfl, ?_⟩
  refine ks_wpAny_call_super hD1 hD2 hx₁ rfl (fun c e => by cases e) (looks_mroIn X₁ T.mro) (fun h₂ hso k₂ => ?_)
  have X₂ : K.In h₂ := X₁.keeps k₂
  have hx₂ := k₂ _ _ hx₁
  have hI : Looks (model P w) h₂ (isInstance (.ref x) (.type B)) true := (InstAt.type (ox := excObj C t0 none .none) (od := none) ⟨hx₂, rfl, rfl, trivial⟩).andThen (looks_subIn X₂ T.exB)
  have hxC : x ≠ C := fun z => by
    rw [← z] at hD1
    rw [hx₁] at hD1
    cases hD1
    cases hD2
  have alo := T.alo
  unfold ks_superIn at alo
  rw [hcC] at alo
  refine kxs_getMethod T.kxs hso (looks_opaque X₂ T.opq) (l₀ := cdC.mro) (fun A Q E s k q => wpAny_bind ((looks_clsIn X₂ hcC) A _ E s k (wpAny_pure q))) rfl X₂ alo hI hxC (by decide) ?_
  have k₃ : ∀ b o, h₂.get? b = some o → (h₂.push (kxs_mw initId x)).get? b = some o := fun b o e => Heap.get?_push_of_some _ e
  have hu : (h₂.push (kxs_mw initId x)).get? h₂.objs.size = some (kxs_mw initId x) := Heap.get?_push_at rfl rfl
  refine kxs_callWith (i := initId) (x := x) rfl ?_
  refine evalArgs_plain ?_
  refine spliced_cons (Constant_str (k := j) (pos := a4) ?_)
  refine spliced_nil ⟨hu, ?_⟩
  have hLs : hp.objs.size < h₂.objs.size := by
    obtain ⟨oL, _, _, hL, _⟩ := hn
    exact Heap.lt_size (k₂ _ _ hL)
  have hux : h₂.objs.size ≠ x := Nat.ne_of_gt (Heap.lt_size hx₂)
  have X₀ : K.In (hideAll hp [x]) := fun a o e => hideAll_get _ (X a o e) (by
    intro z
    have z' : a = x := by simpa using z
    rw [z', hnx] at e
    cases e)
  have kk : ∀ b o, (hideAll hp [x]).get? b = some o → (h₂.push (kxs_mw initId x)).get? b = some o := fun b o e => k₃ _ _ (k₂ _ _ (k₁ _ _ (of_hideAll [x] e)))
  have F₀ : Fr (hideAll hp [x]) hp.objs.size (h₂.push (kxs_mw initId x)) (fun y => ([("self", Value.ref x), (fld, v)] : List (Str × Value)).reverse.lookup y) := ⟨(hn.keeps k₂).keeps k₃, kk, Nat.le_of_eq (hideAll_size _ _)⟩
  have N₀ : News (hideAll hp [x]) hp.objs.size (h₂.push (kxs_mw initId x)) [(h₂.objs.size, kxs_mw initId x), (x, excObj C t0 none .none)] := by
    intro p hpm
    rcases List.mem_cons.mp hpm with rfl | hpm
    · refine ⟨hu, Nat.ne_of_gt hLs, Heap.get?_none_of_le (by rw [hideAll_size]; exact Nat.le_of_lt hLs)⟩
    · have e : p = (x, excObj C t0 none .none) := by simpa using hpm
      subst e
      exact ⟨k₃ _ _ hx₂, hxL, hideAll_none _ (by simp)⟩
  refine kxs_call (s := ⟨h₂.push (kxs_mw initId x), g, d, _, os⟩) F₀ X₀ N₀ T.eb T.ei (List.mem_cons_self) (.tail hux (.head fun _ z => nomatch z)) (by rw [sizeLine_eq]; exact (by decide : 1 ≤ 16777216)) fun t' h' F' N' _ => ?_
  have hx' : h'.get? x = some (excObj C t' none .none) := (N' (x, excObj C t' none .none) (by simp)).1
  have X' : K.In h' := X₀.keeps F'.keep
  have hLs' : hp.objs.size < h'.objs.size := by
    obtain ⟨oL, _, _, hL, _⟩ := F'.ns
    exact Heap.lt_size hL
  refine wpAt_of_wpAny (wpAny_execs_cons (plainObj_wpAny_Assign_Attribute ?_))
  refine wpAny_Name (wpAny_loadName_local T.ini.kind T.ini.lf F'.ns hfld ?_) T.ini.nd
  refine wpAny_Name (wpAny_loadName_local T.ini.kind T.ini.ls F'.ns hself ?_) (by decide)
  refine xc_store (s := ⟨h', g, d, _, os⟩) T X' hx' fun h'' tk'' dx kp dn dne ho hns => wpAny_execs_nil ?_
  exact hq h'' tk'' dx t' ⟨fun b o hb e => kp b o hb (F'.keep b o (hideAll_get _ e (by simpa using hb))), ho, Nat.le_trans (Nat.le_of_lt hLs') dn, dne, hns⟩
/-- a made error -/
structure XMade (h h' : Heap) (e C d : Addr) (fld : Str) (v : Value) : Prop where
  keep : ∀ b o, h.get? b = some o → h'.get? b = some o
  new : h.objs.size ≤ e
  obj : ∃ oe vs, h'.get? e = some oe ∧ oe.cls = .ref C ∧ oe.dict = some d ∧ oe.data = .fields vs ∧ vs[1]? = some .none
  dbig : h.objs.size ≤ d
  dne : d ≠ e
  ns : h'.Ns1 d (fun y => if y = fld then some v else none)
theorem xc_made (T : ExTxt P K st C fI cc cda fd B newId initId bmB fld) {v : Value} (X : K.In s.heap) (hg : s.heap.Ns mainGlobals mg) (hbt : ∃ mb, s.heap.Ns builtinsNs mb ∧ ∀ x : Str, x ≠ "__name__" → mb x = bootBuiltins x) (hlim : s.heap.NoLimit) (hroom : A.depth + 1 < recursionLimit)
    (hq : ∀ h' tk e d, XMade s.heap h' e C d fld v → R (.ok (.ret (.ref e))) { s with heap := h', toks := tk }) :
    codeAny (model P w) A (.call (.ref C) ⟨[v], []⟩) R s := by
  obtain ⟨nm, N, qn, bs, bm, hdct, sn, sub, ab, col, dd, k0, k1, k2, k3, k5, hC, hT⟩ := excInit_of X T.ei
  obtain ⟨hp, g, dr, tk, os⟩ := s
  have k : ∀ b o, hp.get? b = some o → ((hp.push (kdv_tup [v])).push (excO C hp.objs.size)).get? b = some o := fun b o e => Heap.get?_push_of_some _ (Heap.get?_push_of_some _ e)
  have hget : ((hp.push (kdv_tup [v])).push (excO C hp.objs.size)).get? (hp.objs.size + 1) = some (excObj C hp.objs.size none .none) := by heap_get
  have hnx : K.lookup (hp.objs.size + 1) = none := by
    cases e : K.lookup (hp.objs.size + 1) with
    | none => rfl
    | some o => exact absurd (Nat.lt_of_succ_lt (Heap.lt_size (show hp.get? (hp.objs.size + 1) = some o from X _ _ e))) (Nat.lt_irrefl _)
  obtain ⟨mb, hb0, hbm⟩ := hbt
  refine call_own T.eb hT hC (looks_findIn X T.iC) (fun self => bind_fn X self T.tC) (by rw [sizeLine_eq]; exact (by decide : 1 ≤ 16777216)) ?_
  refine xc_init (s := ⟨(hp.push (kdv_tup [v])).push (excO C hp.objs.size), g, dr, tk, os⟩) T (X.keeps k) (hg.keeps k) ⟨mb, hb0.keeps k, hbm⟩ (hlim.keeps k) hget hnx hroom fun h' tk' dx t1 M => ?_
  have z : hp.objs.size + 1 + 1 ≤ dx := by
    have q := M.dbig
    simpa only [Heap.size_push] using q
  exact ⟨rfl, hq h' tk' (hp.objs.size + 1) dx ⟨fun b o e => M.keep b o (Nat.ne_of_lt (Nat.lt_succ_of_lt (Heap.lt_size e))) (k b o e), Nat.le_succ _, ⟨_, _, M.obj, rfl, rfl, rfl, rfl⟩, by show hp.objs.size ≤ dx; omega, M.dne, M.ns⟩⟩
end
end Lad
namespace Lad
open PySem L2
theorem relO_one {v : V} {v' : Value} (r : RelV v v') (g f : Str) : RelO (List.lookup f [(g, v)]) (if f = g then some v' else none) := by
  by_cases hw : f = g
  · subst hw
    rw [if_pos rfl]
    have q : List.lookup f [(f, v)] = some v := by simp [List.lookup]
    rw [q]
    exact r
  · rw [if_neg hw]
    have qw : (f == g) = false := by simpa using hw
    have q2 : List.lookup f [(g, v)] = none := by simp [List.lookup, qw]
    rw [q2]
    trivial
section
variable {X : Cx} {st : Stmt} {C fI cc cda : Addr} {fd : FuncData} {B newId initId : String} {bmB : List Value} {fld : Str}
def tMkX (C : Addr) (fld : Str) (ta : TA) : St → Hp → XK → Prop := fun σ H Q => ta σ H fun vs H1 => ∃ v, vs = [v] ∧ ∀ d, H1 d = none → Q (.ref C) (some d) (upd H1 d (.xd [(fld, v)]))
theorem pmk_x {x : Str} {a : Expr} {ta : TA} {p pos : Pos} {k : Nat} (T : ExTxt X.prog X.K st C fI cc cda fd B newId initId bmB fld) (hr : Room k X.A) (gC : X.mg x = some (.ref C)) (ha : PA X [a] ta) (hg : Gl X x := by rfl) (hdb : (x == ("__debug__" : Str)) = false := by decide)
    (he : starEach (a :: []) X.env = (false, eval a X.env) :: starEach [] X.env := by rfl) (hpl : (backTo pos (starEach [] X.env)).any (·.1) = false := by rfl) :
    PMk X (.Call (.Name x p) [a] [] pos) (tMkX C fld ta) := by
  intro pins s σ H Q I h
  refine wpAny_Call_Name_kw (ld_glob I hg gC ?_ hdb)
  refine PySem.W.callWith_K (h₀ := X.base) I.ok.mod.kin T.kC (thn (ha.run pos pins s σ H _ I h) fun us s1 hh => ?_) he hpl
  obtain ⟨vs, H1, I1, r1, v, ev, q1⟩ := hh
  subst ev
  refine ⟨I1.kIn, ?_⟩
  cases r1 with
  | cons rv rn =>
    rename_i v' us'
    cases rn
    have hlim := I1.nolimit
    obtain ⟨mb, hb0, hbm⟩ := I1.ok.mod.blt
    have hg1 := I1.ok.mod.glob.keeps I1.bk
    have hb1 := hb0.keeps I1.bk
    obtain ⟨hp, g, dr, tk, os⟩ := s1
    refine wpAny_call (xc_made T I1.kIn hg1 ⟨mb, hb1, hbm⟩ hlim (by have := hr.dp; omega) fun h' tk' e d M => ?_)
    show MkP X pins σ Q (.ref e) ⟨h', g, dr, tk', os⟩
    obtain ⟨oe, fv, hoe, hc, hd, hdat, h1⟩ := M.obj
    have hns := M.ns
    obtain ⟨G', g1, g2⟩ := restrict h' fun b => decide (b ≠ e)
    have gk : ∀ b, b ≠ e → G'.get? b = h'.get? b := fun b hb => g1 b (decide_eq_true hb)
    have ge : G'.get? e = none := g2 e (by simp)
    have old : ∀ b o, hp.get? b = some o → G'.get? b = some o := fun b o q => (gk b (Nat.ne_of_lt (Nat.lt_of_lt_of_le (Heap.lt_size q) M.new))).trans (M.keep b o q)
    have ob : ObjOk X.prog X.w (upd H1 d (.xd [(fld, v)])) G' d (.xd [(fld, v)]) := ⟨_, hns.at (fun o q => (gk d M.dne).trans q), fun f => relO_one rv fld f⟩
    have J : Inv X pins σ (upd H1 d (.xd [(fld, v)])) ⟨G', g, dr, tk', os⟩ := I1.laid (t' := tk') old M.dbig ob
    refine ⟨e, oe, fv, ⟨G', g, dr, tk', os⟩, _, .ref C, some d, rfl, J, fun b o q => ?_, ge, hoe, ⟨hc, hd⟩, hdat, h1, ?_, rfl, I1.bare, raises_own T.exC T.tyC, q1 d (I1.hok.fresh M.dbig)⟩
    · by_cases hb : b = e
      · have q' : G'.get? b = some o := q
        rw [hb, ge] at q'; cases q'
      · exact (gk b hb).symm.trans q
    · rw [upd_ne (Ne.symm M.dne)]
      exact I1.hok.fresh M.new
end
/-! ### raise X(e) -/
def sRaise (c : Nat) (f : En → Hea → Res Val) : En → Hea → SRes := fun e h => ofR (f e h) e fun d h1 => .exc c d e h1
section
variable {T : Tb} {X : Cx} {W : WX} {st : Stmt} {fI cc cda : Addr} {fd : FuncData} {B newId initId : String} {bmB : List Value} {c : Nat} {x : Str} {a : Expr} {f : En → Hea → Res Val} {p pos pos2 : Pos} {k : Nat}
theorem st_raise (hc : X.calm = true) (E : ExTxt X.prog X.K st (T.ca c) fI cc cda fd B newId initId bmB (T.fld c)) (hr : Room k X.A) (gC : X.mg x = some (.ref (T.ca c))) (tk : Takes X W) (ha : SE T X W a f) (hg : Gl X x := by rfl) (hdb : (x == ("__debug__" : Str)) = false := by decide)
    (he : starEach (a :: []) X.env = (false, eval a X.env) :: starEach [] X.env := by rfl) (hpl : (backTo pos (starEach [] X.env)).any (·.1) = false := by rfl) :
    SSt T X W (.Raise (some (.Call (.Name x p) [a] [] pos)) none pos2) (sRaise c f) := (ps_raise hc tk (pmk_x E hr gC (pa_cons ha pa_nil he) hg hdb he hpl)).imp fun D σ H q => by
  obtain ⟨ρ, e, h, R, E, a⟩ := q
  refine ⟨ρ, e, h, R, E, (a.ofR E).mono fun v H1 ⟨ρ1, d, h1, s, R1, r, E1, a1⟩ => ⟨v, rfl, fun dx hd => ?_⟩⟩
  exact a1 ρ1 v σ _ dx (.side hd) (R1.side hd) (r.mono .rfl (.new hd)) (E1.mono .rfl (.new hd)) upd_same
end
end Lad
end
/-! ## LadTry -/
section
set_option maxRecDepth 100000
set_option maxHeartbeats 2000000
namespace Lad
open PySem L2
/-! ### no error inside -/
mutual
def Val.noEx : Val → Bool
  | .tup xs => noExL xs
  | .exn _ _ => false
  | _ => true
def noExL : List Val → Bool
  | [] => true
  | x :: xs => x.noEx && noExL xs
end
def noExKv : List (Val × Val) → Bool
  | [] => true
  | (a, b) :: xs => b.noEx && noExKv xs
def noExFs : List (Nat × Val) → Bool
  | [] => true
  | (a, b) :: xs => b.noEx && noExFs xs
def Ob.noEx : Ob → Bool
  | .lst xs => noExL xs
  | .fro xs => noExL xs
  | .dcK xs => noExKv xs
  | .dcT xs => noExKv xs
  | .ins _ fs => noExFs fs
def noExH : Hea → Bool
  | [] => true
  | o :: os => o.noEx && noExH os
def noExE : En → Bool
  | [] => true
  | none :: r => noExE r
  | some v :: r => v.noEx && noExE r
/-- the same tables but for the handled error -/
def Sy.like (S S' : Sy) : Prop := S.K = S'.K ∧ S.ca = S'.ca ∧ S.nm = S'.nm ∧ S.fld = S'.fld
section
variable {S S' : Sy} {ρ : List Addr} {H : Hp}
mutual
theorem Rep.no : ∀ {d : Val} {v : V}, S.ex = none → Rep S ρ H d v → d.noEx = true
  | _, _, _, .non => rfl
  | _, _, _, .bl _ => rfl
  | _, _, _, .int _ => rfl
  | _, _, _, .str _ => rfl
  | _, _, h, .tup _ r => by simp only [Val.noEx]; exact Reps.no h r
  | _, _, _, .ref _ => rfl
  | _, _, h, .exn e _ _ => by rw [h] at e; cases e
theorem Reps.no : ∀ {d : List Val} {v : List V}, S.ex = none → Reps S ρ H d v → noExL d = true
  | _, _, _, .nil => rfl
  | _, _, h, .cons r t => by simp only [noExL, Rep.no h r, Reps.no h t, Bool.and_self]
end
mutual
theorem Rep.like (l : S.like S') : ∀ {d : Val} {v : V}, d.noEx = true → Rep S ρ H d v → Rep S' ρ H d v
  | _, _, _, .non => .non
  | _, _, _, .bl _ => .bl _
  | _, _, _, .int _ => .int _
  | _, _, _, .str _ => .str _
  | _, _, h, .tup s r => .tup (by rw [← l.1]; exact s) (Reps.like l (by simpa [Val.noEx] using h) r)
  | _, _, _, .ref e => .ref e
  | _, _, h, .exn _ _ _ => by simp [Val.noEx] at h
theorem Reps.like (l : S.like S') : ∀ {d : List Val} {v : List V}, noExL d = true → Reps S ρ H d v → Reps S' ρ H d v
  | _, _, _, .nil => .nil
  | _, _, h, .cons r t => by
    simp only [noExL, Bool.and_eq_true] at h
    exact .cons (Rep.like l h.1 r) (Reps.like l h.2 t)
end
theorem KvR.like {κ : Type} {kd : κ → Val} (l : S.like S') : ∀ {d : List (Val × Val)} {v : List (κ × V)}, noExKv d = true → KvR S ρ H kd d v → KvR S' ρ H kd d v
  | _, _, _, .nil => .nil
  | _, _, h, .cons r t => by
    simp only [noExKv, Bool.and_eq_true] at h
    exact .cons (Rep.like l h.1 r) (KvR.like l h.2 t)
theorem FsR.like (l : S.like S') : ∀ {d : List (Nat × Val)} {v : List (Str × V)}, noExFs d = true → FsR S ρ H d v → FsR S' ρ H d v
  | _, _, _, .nil => .nil
  | _, _, h, .cons r t => by
    simp only [noExFs, Bool.and_eq_true] at h
    rw [l.2.2.1]
    exact .cons (Rep.like l h.1 r) (FsR.like l h.2 t)
theorem KvR.no {κ : Type} {kd : κ → Val} (h : S.ex = none) : ∀ {d : List (Val × Val)} {v : List (κ × V)}, KvR S ρ H kd d v → noExKv d = true
  | _, _, .nil => rfl
  | _, _, .cons r t => by simp only [noExKv, Rep.no h r, KvR.no h t, Bool.and_self]
theorem FsR.no (h : S.ex = none) : ∀ {d : List (Nat × Val)} {v : List (Str × V)}, FsR S ρ H d v → noExFs d = true
  | _, _, .nil => rfl
  | _, _, .cons r t => by simp only [noExFs, Rep.no h r, FsR.no h t, Bool.and_self]
theorem ObR.like (l : S.like S') {o : Ob} {a : Addr} (h : o.noEx = true) (r : ObR S ρ H o a) : ObR S' ρ H o a := by
  cases r with
  | lst h1 h2 => exact .lst h1 (h2.like l h)
  | fro h1 h2 => exact .fro h1 (h2.like l h)
  | dcK h1 h2 => exact .dcK h1 (h2.like l h)
  | dcT h1 h2 => exact .dcT h1 (h2.like l h)
  | ins h1 h2 => exact .ins (by rw [← l.2.1]; exact h1) (h2.like l h)
theorem ObR.no (h : S.ex = none) {o : Ob} {a : Addr} (r : ObR S ρ H o a) : o.noEx = true := by
  cases r with
  | lst h1 h2 => exact h2.no h
  | fro h1 h2 => exact h2.no h
  | dcK h1 h2 => exact h2.no h
  | dcT h1 h2 => exact h2.no h
  | ins h1 h2 => exact h2.no h
theorem noExH_get : ∀ {h : Hea} {i : Nat} {o : Ob}, noExH h = true → h[i]? = some o → o.noEx = true
  | o :: os, 0, _, h, e => by
    simp only [noExH, Bool.and_eq_true] at h
    cases e
    exact h.1
  | o :: os, i + 1, _, h, e => by
    simp only [noExH, Bool.and_eq_true] at h
    exact noExH_get (i := i) h.2 e
  | [], _, _, _, e => by simp at e
theorem Rel.like {h : Hea} (l : S.like S') (hn : ∀ (i : Nat) (o : Ob), h[i]? = some o → o.noEx = true) (R : Rel S ρ h H) : Rel S' ρ h H := ⟨R.len, R.inj, fun i o a e1 e2 => (R.ob i o a e1 e2).like l (hn i o e1)⟩
theorem Rel.no {h : Hea} (hx : S.ex = none) (R : Rel S ρ h H) : ∀ (i : Nat) (o : Ob), h[i]? = some o → o.noEx = true := fun i o e => by
  obtain ⟨a, _, r⟩ := R.at e
  exact r.no hx
theorem ER.like (l : S.like S') : ∀ {e : En} {σ : St}, noExE e = true → ER S ρ H e σ → ER S' ρ H e σ
  | _, _, _, .nil => .nil
  | none :: _, _, h, .cons r t => .cons (fun x e => nomatch e) (ER.like l h t)
  | some v :: _, _, h, .cons r t => by
    simp only [noExE, Bool.and_eq_true] at h
    exact .cons (fun x e => by
      obtain ⟨y, ey, q⟩ := r x e
      cases e
      exact ⟨y, ey, q.like l h.1⟩) (ER.like l h.2 t)
theorem ER.no (hx : S.ex = none) : ∀ {e : En} {σ : St}, ER S ρ H e σ → noExE e = true
  | _, _, .nil => rfl
  | none :: _, _, .cons r t => by
    simp only [noExE]
    exact ER.no hx t
  | some v :: _, _, .cons r t => by
    obtain ⟨y, ey, q⟩ := r v rfl
    simp only [noExE, q.no hx, ER.no hx t, Bool.and_self]
theorem Kp.like (l : S.like S') {H' : Hp} (k : Kp S H H') : Kp S' H H' := ⟨fun a xs h => by rw [← l.1] at h ⊢; exact k.1 a xs h, k.2⟩
theorem Go.like (l : S.like S') {ρ' : List Addr} {H' : Hp} (g : Go S ρ H ρ' H') : Go S' ρ H ρ' H' := ⟨g.sub, g.kp.like l, g.fr, g.nw⟩
end
/-! ### try: body; except X as n: suite -/
/-- what a suite leaves -/
def suiteEnd (i : Nat) (h1 : Hea) : SRes → SRes
  | .rt v h2 => if (begins h1 h2 && noExH (h2.drop h1.length) && v.noEx) = true then .rt v h2 else .stuck
  | .nx e2 h2 => if (begins h1 h2 && noExH (h2.drop h1.length) && noExE (e2.set i none)) = true then .nx (e2.set i none) h2 else .stuck
  | _ => .stuck
def sTry1 (sub : Nat → Option Bool) (i : Nat) (fb fs : En → Hea → SRes) : En → Hea → SRes := fun e h => match fb e h with
  | .exc c d e1 h1 => match sub c with
    | some true => suiteEnd i h1 (fs (e1.set i (some (.exn c d))) h1)
    | some false => .exc c d e1 h1
    | none => .stuck
  | r => r
section
variable {T : Tb} {X : Cx} {W : WX} {x n : Str} {cv : Value} {i : Nat} {body suite : List Stmt} {b₀ : Stmt} {np pos pos' : Pos} {fb fs : En → Hea → SRes} {sub : Nat → Option Bool}
abbrev Tb.at (T : Tb) (a : Addr) (c : Nat) (dx : Addr) : Tb := { T with ex := some (a, c, dx) }
theorem like_at {a : Addr} {c : Nat} {dx : Addr} : (sy T X).like (sy (T.at a c dx) X) := ⟨rfl, rfl, rfl, rfl⟩
theorem like_off {a : Addr} {c : Nat} {dx : Addr} : (sy (T.at a c dx) X).like (sy T X) := ⟨rfl, rfl, rfl, rfl⟩
theorem ends_ok {i : Nat} {a : Addr} {c : Nat} {dx : Addr} {ρ : List Addr} {H : Hp} {h1 : Hea} {r : SRes} {D : Ends} (hx : T.ex = none) (R : Rel (sy T X) ρ h1 H) (q : AftS (sy T X) ρ H (suiteEnd i h1 r) D W) :
    AftS (sy (T.at a c dx) X) ρ H r { nx := fun σ' H' => D.nx (σ'.set i none) H', rt := D.rt, bk := fun σ' H' => D.bk (σ'.set i none) H', ct := fun σ' H' => D.ct (σ'.set i none) H' } W0 := by
  have hn := R.no hx
  have all : ∀ {h2 : Hea}, begins h1 h2 = true → noExH (h2.drop h1.length) = true → ∀ (i : Nat) (o : Ob), h2[i]? = some o → o.noEx = true := by
    intro h2 hb hd j o e
    obtain ⟨t, rfl⟩ := begins_eq hb
    by_cases hj : j < h1.length
    · rw [List.getElem?_append_left hj] at e
      exact hn j o e
    · rw [List.getElem?_append_right (Nat.le_of_not_lt hj)] at e
      rw [List.drop_left] at hd
      exact noExH_get hd e
  cases r with
  | rt v h2 =>
    unfold suiteEnd at q
    dsimp only at q
    split at q
    · rename_i hb
      simp only [Bool.and_eq_true] at hb
      exact fun ρ1 u H1 s R1 r1 => q ρ1 u H1 (s.like like_off) (R1.like like_off (all hb.1.1 hb.1.2)) (r1.like like_off hb.2)
    · exact q.elim
  | nx e2 h2 =>
    unfold suiteEnd at q
    dsimp only at q
    split at q
    · rename_i hb
      simp only [Bool.and_eq_true] at hb
      exact fun ρ1 σ1 H1 s R1 E1 => q ρ1 _ H1 (s.like like_off) (R1.like like_off (all hb.1.1 hb.1.2)) ((E1.gone i).like like_off hb.2)
    · exact q.elim
  | bk e2 h2 => exact q.elim
  | ct e2 h2 => exact q.elim
  | exc c2 d2 e2 h2 => exact q.elim
  | stuck => exact q.elim
theorem st_try1 (hx : T.ex = none) (hs : X.stack = X.env :: X.outer) (hf : X.env.frame = some X.env.locals) (hN : X.N.Nodup) (hi : X.N[i]? = some n) (hln : X.env.kindOf n = some .local) (hc : Names X x cv) (tk : Takes X W)
    (hsub : ∀ c b, sub c = some b → PySem.W.exmOne X.K (.ref (T.ca c)) cv = some b)
    (hb : ∀ (W : WX) (pn : List (Addr × Obj)) (xe : Value → Shared → Prop), Takes (X.tr pn xe) W → PassesOwn (model X.prog X.w) X.A X.env xe → SSs T (X.tr pn xe) W body fb)
    (hsu : ∀ (a : Addr) (oe : Obj) (c : Nat) (dx : Addr) (pn : List (Addr × Obj)), sub c = some true → Zc (.ref (T.ca c)) (some dx) oe → (∃ vs, oe.data = .fields vs) → SSs (T.at a c dx) (X.suite a ((a, oe) :: pn)) W0 (b₀ :: suite) fs) :
    SSt T X W (.Try body [.ExceptHandler (some (.Name x np)) (some n) (b₀ :: suite) pos'] [] [] pos) (sTry1 sub i fb fs) := by
  refine PS.imp (ps_try_as (tb := fun W' => tS (sy T X) W' fb) (ts := fun a cls d D σ H => ∃ c dx, sub c = some true ∧ cls = .ref (T.ca c) ∧ d = some dx ∧ tS (sy (T.at a c dx) X) W0 fs D σ H) hs hf hN hi hln hc tk (fun W' pn xe tk' po => hb W' pn xe tk' po) (fun a oe cls d pn hz hff => ?_)) fun D σ H q => ?_
  · refine ⟨fun pins s σ H D I q => ?_⟩
    obtain ⟨c, dx, hsc, rfl, rfl, q⟩ := q
    exact (hsu a oe c dx pn hsc hz hff).run pins s σ H D I q
  · obtain ⟨ρ, e, h, R, E, a⟩ := q
    refine ⟨ρ, e, h, R, E, ?_⟩
    unfold sTry1 at a
    revert a
    cases fb e h with
    | nx e1 h1 => exact id
    | rt v h1 => exact id
    | bk e1 h1 => exact id
    | ct e1 h1 => exact id
    | stuck => exact id
    | exc c d e1 h1 =>
      intro a ρ1 v σ1 H1 dx s R1 r1 E1 hdx
      dsimp only at a
      cases hsb : sub c with
      | none => rw [hsb] at a; exact a.elim
      | some b =>
        rw [hsb] at a
        refine ⟨b, hsub c b hsb, fun hb1 ax hax => ?_, fun hb1 => ?_⟩
        · subst hb1
          refine ⟨c, dx, hsb, rfl, rfl, ρ1, _, h1, R1.like like_at (R1.no hx), ?_, ends_ok (W := W) hx R1 (AftS.later a s)⟩
          exact ER.set (S := sy (T.at ax c dx) X) (Rep.exn (S := sy (T.at ax c dx) X) rfl hdx (r1.like like_at (r1.no hx))) i (E1.like like_at (E1.no hx))
        · subst hb1
          exact a ρ1 v σ1 H1 dx s R1 r1 E1 hdx
end
/-! ### e.f in the suite -/
def oExF : Hea → Val → Option Val
  | _, .exn _ d => some d
  | _, _ => none
section
variable {T : Tb} {X : Cx} {a dx : Addr} {c : Nat} {oe : Obj} {pn : List (Addr × Obj)} {e : Expr} {f : En → Hea → Res Val} {pos : Pos} {nm : Str}
theorem se_xf (XC : XfC X.K (T.ca c)) (hno : PySem.W.findIn X.K (.ref (T.ca c)) nm = some none) (hnm : T.fld c = nm) (hz : Zc (.ref (T.ca c)) (some dx) oe) (hf : ∃ vs, oe.data = .fields vs) (he : SE (T.at a c dx) (X.suite a ((a, oe) :: pn)) W0 e f)
    (hb : attributeBase e nm X.env (eval e X.env) = eval e X.env := by rfl) : SE (T.at a c dx) (X.suite a ((a, oe) :: pn)) W0 (.Attribute e nm pos) (eUn oExF f) := (pe_xf XC hno hz hf he hb).imp fun σ H Q q => by
  obtain ⟨ρ, e, h, R, E, a1⟩ := tE.bind (f := f) (g := fun e x h1 => opt (oExF h1 x) h1) q
  refine ⟨ρ, e, h, R, E, a1.mono fun v H1 ⟨ρ1, e1, d1, h1, b1, a2⟩ => ?_⟩
  obtain ⟨R1, E1, r1⟩ := b1
  unfold oExF at a2
  split at a2
  · cases r1 with
    | exn h1 h2 r =>
      cases h1
      refine ⟨rfl, rfl, dx, _, _, rfl, h2, ?_, a2.same R1 r⟩
      subst hnm
      simp [List.lookup]
  · exact a2.elim
end
end Lad
end
/-! ## LadIs -/
section
set_option maxRecDepth 100000
set_option maxHeartbeats 2000000
namespace Lad
open PySem L2
/-! ### isinstance(e, c) in a suite -/
def rIsX (K : PySem.W.Frag) (D a dx : Addr) : List V → Hp → VK → Prop := fun xs H Q => ∃ (c : V) (cv : Value) (b : Bool) (fs : List (Str × V)), xs = [.ref a, c] ∧ (∀ u, RelV c u → u = cv) ∧ PySem.W.kitOne K (.ref D) cv = some b ∧ H dx = some (.xd fs) ∧ Q (.bl b) H
theorem call_isX {X : Cx} {a D dx : Addr} {oe : Obj} {pn : List (Addr × Obj)} (C : ExcC X.K D) (hz : Zc (.ref D) (some dx) oe) (hf : ∃ vs, oe.data = .fields vs) : CallR (X.suite a ((a, oe) :: pn)) (.builtin "isinstance") (rIsX X.K D a dx) := by
  intro pins s σ H xs us Q I r h
  obtain ⟨c, cv, b, fs, rfl, hcv, e, hdx, q⟩ := h
  match us, r with
  | [_, _], .cons rx (.cons rt .nil) =>
    cases rx
    obtain rfl := hcv _ rt
    obtain ⟨hget, _⟩ := I.pin (a, oe) (List.mem_append_left _ List.mem_cons_self)
    obtain ⟨vs, hd⟩ := hf
    have hx : ObjOk X.prog X.w H s.heap dx (.xd fs) := I.hok dx _ hdx
    obtain ⟨mA, hns, hr⟩ := hx
    obtain ⟨od, ho, hl⟩ := lookIn_ns hns
    have J : PySem.W.InstAt s.heap a oe D (some od) := ⟨hget, hz.1, by unfold PySem.W.notCls; rw [hd] <;> rfl, by rw [hz.2]; exact ho⟩
    have hcl : (PySem.W.clsIn X.K D).isSome = true := by
      have := C.hd
      unfold PySem.W.hasDictIn at this
      cases e : PySem.W.clsIn X.K D with
      | none => rw [e] at this; simp at this
      | some cd => rfl
    exact PySem.W.kia_one (PySem.W.kitx_exc hcl C.hg C.hk C.hs C.ha C.hn C.ht C.hm) I.kIn J e (fun z => nomatch z) fun tk => ⟨.bl b, H, I.kept (t' := tk) fun _ _ z => z, rfl, q⟩
def oIsX (tab : Nat → Option Bool) : Hea → Val → Option Val
  | _, .exn c _ => (tab c).map .bl
  | _, _ => none
section
variable {T : Tb} {X : Cx} {a dx : Addr} {c : Nat} {oe : Obj} {pn : List (Addr × Obj)} {e : Expr} {f : En → Hea → Res Val} {pos p p1 : Pos} {x : Str} {cV : V} {cv : Value} {tab : Nat → Option Bool}
theorem se_isX (C : ExcC X.K (T.ca c)) (hz : Zc (.ref (T.ca c)) (some dx) oe) (hf : ∃ vs, oe.data = .fields vs) (hm : X.mg "isinstance" = none) (he : SE (T.at a c dx) (X.suite a ((a, oe) :: pn)) W0 e f)
    (hc : PE (X.suite a ((a, oe) :: pn)) (.Name x p1) (tC cV)) (hcv : ∀ u, RelV cV u → u = cv) (ht : ∀ b, tab c = some b → PySem.W.kitOne X.K (.ref (T.ca c)) cv = some b) (hg : Gl X "isinstance" := by rfl)
    (hs : starEach (e :: [.Name x p1]) X.env = (false, eval e X.env) :: starEach [.Name x p1] X.env := by rfl) :
    SE (T.at a c dx) (X.suite a ((a, oe) :: pn)) W0 (.Call (.Name "isinstance" p) [e, .Name x p1] [] pos) (eUn (oIsX tab) f) := by
  refine PE.imp (pe_callB (call_isX C hz hf) hg hm (by decide +kernel) (pa_cons he (pa_cons hc pa_nil) hs) (he := hs)) fun σ H Q q => ?_
  obtain ⟨ρ, e, h, R, E, a1⟩ := tE.bind (f := f) (g := fun e x h1 => opt (oIsX tab h1 x) h1) q
  refine ⟨ρ, e, h, R, E, a1.mono fun v H1 ⟨ρ1, e1, d1, h1, b1, a2⟩ => ?_⟩
  obtain ⟨R1, E1, r1⟩ := b1
  show rIsX X.K (T.ca c) a dx [v, cV] H1 Q
  unfold oIsX at a2
  split at a2
  · cases r1 with
    | exn h1 h2 r =>
      cases h1
      cases ht1 : tab c with
      | none => rw [ht1] at a2; exact a2.elim
      | some b =>
        rw [ht1] at a2
        exact ⟨cV, cv, b, _, rfl, hcv, ht b ht1, h2, Aft.same (d := .bl b) a2 R1 (.bl b)⟩
  · exact a2.elim
end
end Lad
end
/-! ## LadB2 -/
section
set_option maxRecDepth 100000
set_option maxHeartbeats 2000000
namespace Lad
open PySem L2
/-! ### xs[i] = v, d[k] = v -/
def setIx (h : Hea) (o i v : Val) : Option Hea := match o, i with
  | .ref p, .int k => match h[p]? with
    | some (.lst xs) => match ixN xs.length k with
      | some j => some (h.set p (.lst (xs.set j v)))
      | none => none
    | _ => none
  | _, _ => none
def sSetIx (fv fo fi : En → Hea → Res Val) : En → Hea → SRes := fun e h => ofR ((fv e h).bind fun v h1 => (fo e h1).bind fun o h2 => (fi e h2).bind fun i h3 => match setIx h3 o i v with
    | some h4 => .ok Val.non h4
    | none => .stuck) e fun _ h4 => .nx e h4
section
variable {T : Tb} {X : Cx} {W : WX} {a o i : Expr} {fv fo fi : En → Hea → Res Val} {pos pos' : Pos}
theorem st_setIx (hv : SE T X W a fv) (ho : SE T X W o fo) (hi : SE T X W i fi)
    (ha : ∀ v, assign (.Subscript o i pos') X.env v = (do
      let ov ← holding [v] (eval o X.env)
      let iv ← holding [v, ov] (eval i X.env)
      standAt pos'
      holding [v, ov, iv] (setItem ov iv v)
      release [v, ov, iv] []) := by intro _; rfl)
    (hs : swapsWithSole [.Subscript o i pos'] a pos.line X.env = pure false := by rfl) (hw : swappedStores [.Subscript o i pos'] a X.env = pure none := by rfl)
    (h1 : (assignEach [.Subscript o i pos'] X.env).map (·.2) = [assign (.Subscript o i pos') X.env] := by rfl) : SSt T X W (.Assign [.Subscript o i pos'] a pos) (sSetIx fv fo fi) :=
  (ps_asg hv (pg_sub ho hi set_list ha) hs hw h1).imp fun D σ H q => by
    obtain ⟨ρ, e, h, R, E, a⟩ := q
    unfold sSetIx at a
    have a := (AftS.ofR a E).bind
    refine ⟨ρ, e, h, R, E, a.mono fun v H1 ⟨ρ1, d, h1, s, R1, r1, a1⟩ => ⟨ρ1, e, h1, R1, E.go s, a1.bind.mono fun ov H2 ⟨ρ2, od, h2, s2, R2, r2, a2⟩ => ⟨ρ2, e, h2, R2, (E.go s).go s2, a2.bind.mono fun iv H3 ⟨ρ3, id, h3, s3, R3, r3, a3⟩ => ?_⟩⟩⟩
    unfold setIx at a3
    split at a3
    · rename_i h4 hset
      split at hset
      · split at hset
        · rename_i xs hxs
          split at hset
          · rename_i j hj
            cases hset
            obtain ⟨p, rfl, ep⟩ := (r2.go s3).ref_
            obtain rfl := r3.int_
            have ob := R3.ob _ _ _ hxs ep
            cases ob with
            | @lst _ vs _ hl hr =>
              refine ⟨p, _, _, j, rfl, rfl, hl, by rw [← hr.length]; exact hj, ?_⟩
              have rv := (r1.go s2).go s3
              have kp : Kp (sy T X) H3 (upd H3 p (.lst (List.set vs j v))) := .put hl True.intro
              have R4 := R3.put (o := .lst (List.set vs j v)) (ob := .lst (List.set xs j d)) ep hl True.intro (.lst upd_same ((hr.set rv j).mono .rfl kp))
              have g4 : Go (sy T X) ρ3 H3 ρ3 (upd H3 p (.lst (List.set vs j v))) := .put ep hl True.intro
              obtain ⟨ρ5, d5, h5, s5, R5, r5, E5, a5⟩ := a3 ρ3 .non _ g4 R4 .non
              exact a5 ρ5 σ _ .rfl R5 E5
          · cases hset
        · cases hset
      · cases hset
    · exact a3.elim
end
/-! ### repr of a bool -/
def gReprB : Hea → List Val → Option Val
  | _, [.bl b] => some (.str (if b = true then "True" else "False"))
  | _, [.int i] => if i.natAbs.log2 < 1920 then some (.str (toString i)) else none
  | _, _ => none
section
variable {T : Tb} {X : Cx}
theorem call_repr_bl : CallR X (.builtin "repr") (fun xs H Q => ∃ b, xs = [.bl b] ∧ Q (.str (if b = true then "True" else "False")) H) := by
  intro pins s σ H xs us Q I r h
  obtain ⟨b, rfl, q⟩ := h
  match us, r with
  | [_], .cons rb .nil =>
    cases rb
    exact PySem.P.repr_of_bool ⟨.str _, H, I.tok _, ⟨_, rfl⟩, q⟩
theorem g_reprB : CallR X (.builtin "repr") (rC (sy T X) gReprB) := CallR.imp (CallR.or call_repr_bl SkE.call_repr_int) fun vs H Q h => by
  obtain ⟨ρ, h, ds, R, r, a⟩ := h
  unfold gReprB at a
  split at a
  · obtain rfl := Reps.bls (ns := [_]) r
    exact .inl ⟨_, rfl, Aft.same (d := .str _) a R (.str _)⟩
  · split at a
    · rename_i hl
      obtain rfl := Reps.ints (ns := [_]) r
      exact .inr ⟨_, rfl, hl, Aft.same (d := .str _) a R (.str _)⟩
    · exact a.elim
  · exact a.elim
end
/-! ### a source that is a list or a tuple -/
def iSeq (f : En → Hea → Res Val) : En → Hea → Res Src := fun e h => (f e h).bind fun d h1 => match d with
  | .ref i => if (lstAt h1 i).isSome = true then .ok (srcLive i) h1 else .stuck
  | .tup xs => .ok (srcFix xs) h1
  | _ => .stuck
theorem pi_or {X : Cx} {tg e : Expr} {t u : TI} (h1 : PI X tg e t) (h2 : PI X tg e u) : PI X tg e (fun σ H R => t σ H R ∨ u σ H R) := ⟨fun pins s σ H R I q => by
  rcases q with q | q
  · exact h1.run pins s σ H R I q
  · exact h2.run pins s σ H R I q⟩
section
variable {T : Tb} {X : Cx} {W : WX} {tg a : Expr} {f : En → Hea → Res Val}
theorem si_seq (ha : SE T X W a f) : SI T X W tg a (iSeq f) := (pi_or (si_val (tg := tg) ha) (si_tup (tg := tg) ha)).imp fun σ H Q q => by
  obtain ⟨ρ, e, h, R, E, a⟩ := q
  by_cases hc : ∃ xs h1, f e h = .ok (.tup xs) h1
  · obtain ⟨xs, h1, hf⟩ := hc
    refine .inr ⟨ρ, e, h, R, E, ?_⟩
    unfold iSeq at a
    unfold iTupV
    rw [hf] at a ⊢
    exact a
  · refine .inl ⟨ρ, e, h, R, E, ?_⟩
    unfold iSeq at a
    unfold iVal
    cases hf : f e h with
    | ok d h1 =>
      rw [hf] at a
      cases d with
      | tup xs => exact absurd ⟨xs, h1, hf⟩ hc
      | _ => exact a
    | exc c d h1 => rw [hf] at a; exact a
    | stuck => rw [hf] at a; exact a
end
/-! ### slices of lists -/
section
variable {T : Tb} {X : Cx} {W : WX} {a : Expr} {f : En → Hea → Res Val} {p2 pos : Pos}
def eOpt (f : Option (En → Hea → Res Val)) (e : En) (h : Hea) : Res (Option Int) := match f with
  | none => .ok none h
  | some g => (g e h).bind fun i h3 => match i with | .int i => .ok (some i) h3 | _ => .stuck
def cutL (xs : List Val) (lo hi : Option Int) : List Val := (xs.drop (HT.sIx xs.length 0 lo)).take (HT.sIx xs.length xs.length hi - HT.sIx xs.length 0 lo)
/-- xs[lo:hi], xs a list -/
def lCut (f : En → Hea → Res Val) (lo hi : Option (En → Hea → Res Val)) : En → Hea → Res (List Val) := fun e h => (f e h).bind fun d h1 => (eOpt lo e h1).bind fun l h2 => (eOpt hi e h2).bind fun u h3 => match d with
  | .ref i => match lstAt h3 i with
    | some xs => .ok (cutL xs l u) h3
    | none => .stuck
  | _ => .stuck
/-- t[lo:hi], t a tuple (not the whole of it) -/
def eCut (f : En → Hea → Res Val) (lo hi : Option (En → Hea → Res Val)) : En → Hea → Res Val := fun e h => (f e h).bind fun d h1 => (eOpt lo e h1).bind fun l h2 => (eOpt hi e h2).bind fun u h3 => match d with
  | .tup xs => if HT.sIx xs.length 0 l = 0 ∧ HT.sIx xs.length xs.length u = xs.length then .stuck else .ok (.tup (cutL xs l u)) h3
  | _ => .stuck
abbrev SO (T : Tb) (X : Cx) (W : WX) (e : Option Expr) (f : Option (En → Hea → Res Val)) : Prop := match e, f with
  | none, none => True
  | some e, some f => SE T X W e f
  | _, _ => False
def tO (S : Sy) (W : WX) (f : Option (En → Hea → Res Val)) : TO := fun σ H Q => ∃ ρ e h, Rel S ρ h H ∧ ER S ρ H e σ ∧ (match eOpt f e h with
  | .ok l h' => ∀ ρ' H', Go S ρ H ρ' H' → Rel S ρ' h' H' → Q l H'
  | .exc c d h' => ∀ ρ' v H' dx, Go S ρ H ρ' H' → Rel S ρ' h' H' → Rep S ρ' H' d v → H' dx = some (.xd [(S.fld c, v)]) → W (.ref (S.ca c)) (some dx) σ H'
  | .stuck => False)
theorem so_none : PO X none (tO (sy T X) W none) := ⟨fun pins s σ H Q I q => po_none.run pins s σ H Q I (by
  obtain ⟨ρ, e, h, R, E, a⟩ := q
  exact a ρ H .rfl R)⟩
theorem so_some {e : Expr} (he : SE T X W e f) : PO X (some e) (tO (sy T X) W (some f)) := ⟨fun pins s σ H Q I q => (po_some he).run pins s σ H Q I (by
  obtain ⟨ρ, e, h, R, E, a⟩ := q
  refine ⟨ρ, e, h, R, E, ?_⟩
  unfold eOpt at a
  revert a
  dsimp only
  cases f e h with
  | ok d h1 =>
    intro a ρ1 v H1 s R1 r1
    cases d with
    | int i =>
      obtain rfl := r1.int_
      exact ⟨i, rfl, a ρ1 H1 s R1⟩
    | _ => exact a.elim
  | exc c d h1 => exact fun a => a
  | stuck => exact fun a => a)⟩
end
end Lad
end
/-! ## LadSl -/
section
set_option maxRecDepth 100000
set_option maxHeartbeats 2000000
namespace Lad
open PySem L2
theorem Reps.cut {S : Sy} {ρ : List Addr} {H : Hp} {xs : List Val} {vs : List V} (r : Reps S ρ H xs vs) (lo hi : Option Int) : Reps S ρ H (cutL xs lo hi) (cutV vs lo hi) := by
  unfold cutL cutV
  rw [r.length]
  exact (r.drop _).take _
section
variable {S : Sy} {ρ : List Addr} {H : Hp} {f : Option (En → Hea → Res Val)} {e : En} {h : Hea} {W : XK}
def AftO (S : Sy) (ρ : List Addr) (H : Hp) (r : Res (Option Int)) (Q : Option Int → Hp → Prop) (W : XK) : Prop := match r with
  | .ok l h' => ∀ ρ' H', Go S ρ H ρ' H' → Rel S ρ' h' H' → Q l H'
  | .exc c d h' => ∀ ρ' v H' dx, Go S ρ H ρ' H' → Rel S ρ' h' H' → Rep S ρ' H' d v → H' dx = some (.xd [(S.fld c, v)]) → W (.ref (S.ca c)) (some dx) H'
  | .stuck => False
theorem AftO.bind {r : Res (Option Int)} {k : Option Int → Hea → Res Val} {Q : VK} (a : Aft S ρ H (r.bind k) Q W) : AftO S ρ H r (fun l H1 => ∃ ρ1 h1, Go S ρ H ρ1 H1 ∧ Rel S ρ1 h1 H1 ∧ Aft S ρ1 H1 (k l h1) Q W) W := by
  cases r with
  | ok l h => exact fun ρ1 H1 s R => ⟨ρ1, h, s, R, Aft.later (r := k l h) a s⟩
  | exc c d h => exact a
  | stuck => exact a
theorem AftO.bindL {r : Res (Option Int)} {k : Option Int → Hea → Res (List Val)} {Q : VK} (a : AftL S ρ H (r.bind k) Q W) : AftO S ρ H r (fun l H1 => ∃ ρ1 h1, Go S ρ H ρ1 H1 ∧ Rel S ρ1 h1 H1 ∧ AftL S ρ1 H1 (k l h1) Q W) W := by
  cases r with
  | ok l h => exact fun ρ1 H1 s R => ⟨ρ1, h, s, R, AftL.later (r := k l h) a s⟩
  | exc c d h => exact a
  | stuck => exact a
theorem AftO.mono {r : Res (Option Int)} {Q Q' : Option Int → Hp → Prop} (a : AftO S ρ H r Q W) (h : ∀ v H', Q v H' → Q' v H') : AftO S ρ H r Q' W := by
  cases r with
  | ok l h1 => exact fun ρ1 H1 s R => h _ _ (a ρ1 H1 s R)
  | exc c d h => exact a
  | stuck => exact a
end
section
variable {T : Tb} {X : Cx} {W : WX} {a : Expr} {lo hi : Option Expr} {f : En → Hea → Res Val} {l u : Option (En → Hea → Res Val)} {p2 pos : Pos}
/-- xs[lo:hi] of a list, to be used at once -/
theorem sl_cut (ha : SE T X W a f) (hl : PO X lo (tO (sy T X) W l)) (hu : PO X hi (tO (sy T X) W u)) : SL T X W (.Subscript a (.Slice lo hi none p2) pos) (lCut f l u) :=
  (pe_slice L2.sl_list ha hl hu).imp fun σ H Q q => by
    obtain ⟨ρ, e, h, R, E, a⟩ := q
    unfold lCut at a
    refine ⟨ρ, e, h, R, E, (AftL.bind1 a).mono fun v H1 ⟨ρ1, d, h1, s, R1, r1, a1⟩ => ⟨ρ1, e, h1, R1, E.go s, (AftO.bindL a1).mono fun lv H2 ⟨ρ2, h2, s2, R2, a2⟩ => ⟨ρ2, e, h2, R2, (E.go s).go s2, (AftO.bindL a2).mono fun uv H3 ⟨ρ3, h3, s3, R3, a3⟩ => ?_⟩⟩⟩
    split at a3
    · split at a3
      · rename_i i xs hx
        obtain ⟨p, ev, ep⟩ := ((r1.go s2).go s3).ref_
        obtain ⟨vs, sq, rr⟩ := R3.lst hx ep
        exact ⟨p, vs, ev, sq, fun l n => a3.made R3 (rr.cut lv uv) l n⟩
      · exact a3.elim
    · exact a3.elim
/-- t[lo:hi] of a tuple -/
def eCutT (f : En → Hea → Res Val) (lo hi : Option (En → Hea → Res Val)) : En → Hea → Res Val := fun e h => (f e h).bind fun d h1 => (eOpt lo e h1).bind fun l h2 => (eOpt hi e h2).bind fun u h3 => match d with
  | .tup xs => .ok (.tup (cutL xs l u)) h3
  | _ => .stuck
theorem cutL_whole {xs : List Val} {l u : Option Int} (h : HT.sIx xs.length 0 l = 0 ∧ HT.sIx xs.length xs.length u = xs.length) : cutL xs l u = xs := by
  unfold cutL
  rw [h.1, h.2]
  simp
theorem se_cut (ha : SE T X W a f) (hl : PO X lo (tO (sy T X) W l)) (hu : PO X hi (tO (sy T X) W u)) : SE T X W (.Subscript a (.Slice lo hi none p2) pos) (eCutT f l u) :=
  (pe_slice L2.sl_tupA ha hl hu).imp fun σ H Q q => by
    obtain ⟨ρ, e, h, R, E, a⟩ := q
    unfold eCutT at a
    refine ⟨ρ, e, h, R, E, a.bind.mono fun v H1 ⟨ρ1, d, h1, s, R1, r1, a1⟩ => ⟨ρ1, e, h1, R1, E.go s, (AftO.bind a1).mono fun lv H2 ⟨ρ2, h2, s2, R2, a2⟩ => ⟨ρ2, e, h2, R2, (E.go s).go s2, (AftO.bind a2).mono fun uv H3 ⟨ρ3, h3, s3, R3, a3⟩ => ?_⟩⟩⟩
    have r3 := (r1.go s2).go s3
    split at a3
    · rename_i xs
      cases r3 with
      | tup ht hr =>
        refine ⟨_, _, rfl, ht, fun hw => ?_, fun hw p n => ?_⟩
        · rw [← hr.length] at hw
          rw [cutL_whole hw] at a3
          exact a3.same R3 (.tup ht hr)
        · exact a3.tup R3 (hr.cut lv uv) p n
    · exact a3.elim
end
end Lad
end
/-! ## LadHead -/
section
set_option maxRecDepth 100000
set_option maxHeartbeats 2000000
namespace Lad
open PySem L2
open PySem.W (Frag)
/-! ### the head's facts: checks on what the top has left -/
def fdOf (K : Frag) (f : Addr) : FuncData := match K.lookup f with
  | some ⟨_, _, .func fd, _⟩ => fd
  | _ => PySem.W.fnOf "" "" ⟨[], [], none, [], [], none, []⟩ [] ⟨.function, [], false, false, []⟩ .none .none .none .none none .none .none
/-- an own error class with an __init__ of the known shape -/
structure ErD where
  cls : Str
  st : Stmt
  qual : Str
  fld : Str
def erI (K : Frag) (d : ErD) : Addr := He.ma K (He.ga K d.cls) "__init__"
def erW (K : Frag) (d : ErD) : He.FnW := match K.lookup (erI K d) with
  | some ⟨_, _, .func fd, _⟩ => some (fd.name, fd.qualname, fd.params, fd.body, fd.scope, fd.globals, fd.closure.map (fun p => (p.1, 0)), fd.builtins)
  | _ => none
def ErD.val (d : ErD) : He.FnW := some ("__init__", d.qual, defArgs d.st, .stmts (defBody d.st), defScope d.st, mainGlobals, [("__class__", 0)], builtinsNs)
def erCda (K : Frag) (d : ErD) : Addr := match K.lookup (erI K d) with
  | some ⟨_, _, .func fd, _⟩ => (match fd.code with | .ref a => a | _ => 0)
  | _ => 0
def erCc (K : Frag) (d : ErD) : Addr := match K.lookup (erI K d) with
  | some ⟨_, _, .func fd, _⟩ => (match fd.closure with | [(_, a)] => a | _ => 0)
  | _ => 0
def noneB : Value → Bool
  | .none => true
  | _ => false
def eqO (a b : Option (Option Value)) : Bool := decide (a = b)
def erB (file : Str) (B newId initId : String) (bmB : List Value) (K : Frag) (d : ErD) : Bool :=
  let C := He.ga K d.cls
  (match K.lookup (erI K d) with
    | some ⟨_, _, .func fd, _⟩ => noneB fd.defaults && (match fd.code, fd.closure with
      | .ref cda, [(_, cc)] => PySem.W.codeIn K (.ref cda) d.qual &&
        ((match K.lookup cda with
          | some ⟨_, _, .fields vs, _⟩ => (match (vs[2]? : Option Value) with
            | some (.str z _) => file == z
            | _ => false)
          | _ => false) &&
        (match K.lookup cc with
          | some ⟨_, _, .cell (some (.ref D)), _⟩ => decide (D = C)
          | _ => false))
      | _, _ => false)
    | _ => false) &&
  (PySem.W.excInitIn K C bmB newId && (PySem.W.excOver K C bmB && (eqO (PySem.W.findIn K (.ref C) "__setattr__") (some (some (.builtin "object.__setattr__"))) &&
  (eqO (PySem.W.takerIn K C d.fld) (some none) && (eqO (PySem.W.findIn K (.ref C) "__init__") (some (some (.ref (erI K d)))) && (decide (PySem.W.typeIn K (.ref (erI K d)) = some (.type "function")) &&
  (PySem.W.keepIn K (.ref C) && (decide (PySem.W.subIn K (.ref C) (.type "BaseException") = some true) && (decide (PySem.W.subIn K (.ref C) (.type B) = some true) && (decide (PySem.W.typeIn K (.ref C) = some (.type "type")) &&
  (PySem.W.hasDictIn K C && (decide (PySem.W.mroIn K C (.ref C) = some true) && (eqO (PySem.W.nsIn K mainGlobals "super") (some none) && (eqO (PySem.W.nsIn K cStatics "thirdparty.any") (some none) &&
  eqO (PySem.W.ks_superIn K C C "__init__") (some (some (.builtin initId)))))))))))))))))
theorem eqO_ok {a b : Option (Option Value)} (h : eqO a b = true) : a = b := of_decide_eq_true h
theorem noneB_ok {v : Value} (h : noneB v = true) : v = .none := by
  cases v <;> first | rfl | exact absurd h Bool.false_ne_true
theorem ErD.txt {P : Program} {K : Frag} {d : ErD} {B newId initId : String} {bmB : List Value} (kxs : PySem.W.KxsFacts B initId) (eb : PySem.ExcBaseFacts B newId initId bmB) (sf : PySem.StoreFacts B bmB "object.__setattr__" "object") (ini : InitOk d.st d.fld)
    (hb : ∀ (kV doc pm : Value) (an : Option Addr) (cdv ct : Value) (cc : Addr) (u v : Value), bindArgs (PySem.W.ksFn "__init__" d.qual (defArgs d.st) (defBody d.st) (defScope d.st) .none kV doc pm an cdv ct cc) ⟨[u, v], []⟩ = pure ([("self", u), (d.fld, v)] : List (Str × Value)))
    (top : (P.main.scope.names.lookup ("super" : Str)).isSome = false) (e : erW K d = d.val) (c : erB P.main.file B newId initId bmB K d = true) :
    ExTxt P K d.st (He.ga K d.cls) (erI K d) (erCc K d) (erCda K d) (fdOf K (erI K d)) B newId initId bmB d.fld := by
  unfold erB at c
  simp only [Bool.and_eq_true] at c
  obtain ⟨c0, c1, c2, c3, c4, c5, c6, c7, c8, c9, c10, c11, c12, c13, c14, c15⟩ := c
  unfold erW at e
  cases q : K.lookup (erI K d) with
  | none => rw [q] at c0; exact absurd c0 Bool.false_ne_true
  | some o =>
    obtain ⟨oc, od, dt, osl⟩ := o
    rw [q] at c0 e
    cases dt with
    | func fd =>
      obtain ⟨n1, n2, n3, n4, n5, n6, n7, n8, n9, n10, n11, n12, n13, n14, n15⟩ := fd
      have e2 : (some (n1, n2, n3, n4, n5, n6, n7.map (fun p => (p.1, 0)), n15) : He.FnW) = (some ("__init__", d.qual, defArgs d.st, .stmts (defBody d.st), defScope d.st, mainGlobals, [("__class__", 0)], builtinsNs) : He.FnW) := e
      simp only [Option.some.injEq, Prod.mk.injEq] at e2
      obtain ⟨h1, h2, h3, h4, h5, h6, h7, h8⟩ := e2
      subst h1 h2 h3 h4 h5 h6 h8
      dsimp only at c0
      obtain ⟨k1, k2⟩ := Bool.and_eq_true_iff.mp c0
      obtain rfl := noneB_ok k1
      match n7, h7 with
      | [(nm, cc)], h7 =>
        have e7 : nm = "__class__" := by
          have h8 : ((nm, 0) : Str × Addr) = ((("__class__" : Str), 0) : Str × Addr) := (List.cons.inj h7).1
          exact (Prod.mk.inj h8).1
        subst e7
        cases n13 with
        | ref cda =>
          dsimp only at k2
          obtain ⟨k2, k34⟩ := Bool.and_eq_true_iff.mp k2
          obtain ⟨k3, k4⟩ := Bool.and_eq_true_iff.mp k34
          have efd : fdOf K (erI K d) = PySem.W.ksFn "__init__" d.qual (defArgs d.st) (defBody d.st) (defScope d.st) .none n9 n10 n11 n12 (.ref cda) n14 cc := by unfold fdOf; rw [q]
          have ecd : erCda K d = cda := by unfold erCda; rw [q]
          have ecc : erCc K d = cc := by unfold erCc; rw [q]
          rw [efd, ecd, ecc]
          refine ⟨kxs, eb, sf, ini, c1, c2, eqO_ok c3, eqO_ok c4, eqO_ok c5, of_decide_eq_true c6, c7, of_decide_eq_true c8, of_decide_eq_true c9, of_decide_eq_true c10, c11, of_decide_eq_true c12, eqO_ok c13, eqO_ok c14, eqO_ok c15,
            ⟨_, _, _, _, _, _, _, _, _, _, rfl, q, k2⟩, fun s x v => BindsTo.of_eq (hb _ _ _ _ _ _ _ _ _), ?_, ?_, top⟩
          · split at k3
            · rename_i lk
              split at k3
              · rename_i hv
                exact ⟨_, _, _, _, _, _, lk, hv, k3⟩
              · exact absurd k3 Bool.false_ne_true
            · exact absurd k3 Bool.false_ne_true
          · split at k4
            · rename_i lk
              obtain rfl := of_decide_eq_true k4
              exact ⟨_, _, _, lk⟩
            · exact absurd k4 Bool.false_ne_true
        | _ => exact absurd k2 Bool.false_ne_true
    | _ => exact absurd c0 Bool.false_ne_true
/-- a caught error's class: attributes, isinstance -/
def excB (K : Frag) (C : Addr) : Bool := xfB K C && (eqO (PySem.W.findIn K (.ref C) "__class__") (some (some (.builtin "object.__class__"))) && (eqO (PySem.W.specialIn K (.builtin "object.__class__") "__get__") (some (some (.builtin "getset_descriptor.__get__"))) &&
  (decide (PySem.W.takesIn K (.builtin "object.__class__") = some true) && decide (PySem.W.mroIn K C (.type "object") = some true))))
theorem excB_ok {K : Frag} {C : Addr} (h : excB K C = true) : XfC K C ∧ ExcC K C := by
  unfold excB at h
  simp only [Bool.and_eq_true] at h
  obtain ⟨h0, h1, h2, h3, h4⟩ := h
  have x := xfB_ok h0
  exact ⟨x, ⟨x.ga, x.gg, x.exC, x.hdC, eqO_ok h1, eqO_ok h2, of_decide_eq_true h3, of_decide_eq_true h4⟩⟩
/-! ### a def without defaults -/
theorem fun_of {K : Frag} {d : He.DefD} {x qual : Str} {st : Stmt} (hd : d = ⟨d.at_, x, qual, defArgs st, defBody st, defScope st, [], []⟩) (e : He.fnW K d.at_ = d.val) (c : d.ok K = true) : Fun K x qual st (He.fAd K d.at_) (fdOf K (He.fAd K d.at_)) := by
  obtain ⟨fd, F⟩ := He.DefD.funD e c
  obtain ⟨oc, od, dV, kV, doc, pm, an, cdv, ct, osl, rfl, lk, hcd, hdf, _⟩ := F.ex
  have dn : dV = .none := by
    rcases hdf with ⟨_, h⟩ | ⟨h, _⟩
    · exact h
    · rw [hd] at h
      exact absurd rfl h
  subst dn
  have ef : fdOf K (He.fAd K d.at_) = PySem.W.fnOf d.name d.qual d.params d.body d.scope .none kV doc pm an cdv ct := by unfold fdOf; rw [lk]
  rw [ef]
  obtain ⟨at_, _, _, _, _, _, _, _⟩ := d
  cases hd
  exact ⟨⟨oc, od, kV, doc, pm, an, cdv, ct, osl, rfl, lk, hcd⟩, F.kp⟩
/-! ### the Hook -/
abbrev Chk : Type := Frag → Bool
abbrev AlL : Type := Bool × List He.FnW × List He.FnW
def startA : List Addr := [mainGlobals, cStatics]
def asL (g : Addr → Option Obj) : Nat → List Addr
  | 0 => startA
  | n + 1 => He.growD g (asL g n)
def obsL (fa : List Chk) (fn : List He.DefD) (er : List ErD) (K : Frag) : AlL := ((fa.all fun f => f K) && fn.all fun d => d.ok K, fn.map fun d => He.fnW K d.at_, er.map fun d => erW K d)
def valL (fn : List He.DefD) (er : List ErD) : AlL := (true, fn.map He.DefD.val, er.map ErD.val)
def SaysL (fa : List Chk) (fn : List He.DefD) (er : List ErD) (K : Frag) : Prop := obsL fa fn er K = valL fn er
def obsLG (n : Nat) (fa : List Chk) (fn : List He.DefD) (er : List ErD) (g : Addr → Option Obj) : AlL := obsL fa fn er (He.frG g (asL g n))
def hookL (n : Nat) (fa : List Chk) (fn : List He.DefD) (er : List ErD) : PySem.W.Hook where
  α := AlL
  obs := fun s => obsLG n fa fn er s.heap.get?
  val := fun _ => valL fn er
  says := fun _ h => ∃ K : Frag, K.In h ∧ SaysL fa fn er K
  of := fun _ _ e => ⟨_, He.frG_in, e⟩
  keeps := fun _ _ _ ⟨K, hK, c⟩ k => ⟨K, PySem.W.Frag.In.keeps hK k, c⟩
theorem obsLG_eq {n : Nat} {fa : List Chk} {fn : List He.DefD} {er : List ErD} {g : Addr → Option Obj} {s : Shared} (h : ∀ a, g a = s.heap.get? a) : obsLG n fa fn er g = (hookL n fa fn er).obs s := by
  have e : g = s.heap.get? := funext h
  rw [e] <;> rfl
section
variable {fa : List Chk} {fn : List He.DefD} {er : List ErD} {K : Frag}
theorem SaysL.fact (c : SaysL fa fn er K) (i : Nat) {f : Chk} (h : fa[i]? = some f := by rfl) : f K = true := by
  have c1 := (Bool.and_eq_true_iff.mp (show ((fa.all fun f => f K) && fn.all fun d => d.ok K) = true from congrArg (fun z : AlL => z.1) c)).1
  exact List.all_eq_true.mp c1 f (List.mem_of_getElem? h)
theorem SaysL.fn_ (c : SaysL fa fn er K) (i : Nat) {d : He.DefD} (h : fn[i]? = some d) : He.fnW K d.at_ = d.val ∧ d.ok K = true := by
  have c2 := (Bool.and_eq_true_iff.mp (show ((fa.all fun f => f K) && fn.all fun d => d.ok K) = true from congrArg (fun z : AlL => z.1) c)).2
  have e : fn.map (fun d => He.fnW K d.at_) = fn.map He.DefD.val := congrArg (fun z : AlL => z.2.1) c
  have e2 : (fn.map fun d => He.fnW K d.at_)[i]? = (fn.map He.DefD.val)[i]? := by rw [e]
  rw [List.getElem?_map, List.getElem?_map, h] at e2
  exact ⟨Option.some.inj e2, List.all_eq_true.mp c2 d (List.mem_of_getElem? h)⟩
theorem SaysL.er_ (c : SaysL fa fn er K) (i : Nat) {d : ErD} (h : er[i]? = some d) : erW K d = d.val := by
  have e : er.map (fun d => erW K d) = er.map ErD.val := congrArg (fun z : AlL => z.2.2) c
  have e2 : (er.map fun d => erW K d)[i]? = (er.map ErD.val)[i]? := by rw [e]
  rw [List.getElem?_map, List.getElem?_map, h] at e2
  exact Option.some.inj e2
end
end Lad
end
/-! ## LadEnd -/
section
set_option maxRecDepth 100000
set_option maxHeartbeats 2000000
namespace Lad
open PySem L2
open PySem.W (Frag)
/-! ### the end: from the plain law to the row -/
def noList (K : Frag) : Bool := K.all fun p => decide (p.2.cls ≠ .type "list")
theorem noList_ok {K : Frag} (h : noList K = true) {a : Addr} {o : Obj} (e : K.lookup a = some o) : o.cls ≠ .type "list" := by
  have m : (a, o) ∈ K := by
    clear h
    induction K with
    | nil => cases e
    | cons p r ih =>
      obtain ⟨b, ob⟩ := p
      rw [List.lookup_cons] at e
      by_cases q : a = b
      · subst q
        simp at e
        subst e
        exact List.mem_cons_self
      · have q2 : (a == b) = false := by simpa using q
        rw [q2] at e
        exact List.mem_cons_of_mem _ (ih e)
  exact of_decide_eq_true (List.all_eq_true.mp h _ m)
theorem reps_ints {S : Sy} {ρ : List Addr} {H : Hp} : ∀ ns : List Int, Reps S ρ H (ns.map Val.int) (ns.map V.int)
  | [] => .nil
  | n :: ns => .cons (.int n) (reps_ints ns)
/-- the law's promise out of the plain law -/
theorem sp_law {S : Sy} {cf : List Val → Hea → Res Val} {n : Nat} (nl : noList S.K = true) (p : ∀ ns : List Int, ns.length ≤ n → ∃ h, cf [.ref 0] [.fro (ns.map Val.int)] = .ok (.bl true) h) {H : Hp} {a : Addr} {ns : List Int} (hl : ns.length ≤ n)
    (hO : Only H) (hS : SqL S.K H a (ns.map V.int)) : spEv S cf [.ref a] H (fun v _ => v = .bl true) fun _ _ _ => False := by
  have hz : ∃ o, H a = some (.frz o (.lst (ns.map V.int))) := by
    rcases hS with hR | ⟨o, its, m, lk, hc, _⟩
    · rcases hR with hR | ⟨o, hR⟩
      · rcases hO a with z | ⟨o, xs, z⟩
        · rw [z] at hR; cases hR
        · rw [z] at hR; cases hR
      · exact ⟨o, hR⟩
    · exact absurd hc (noList_ok nl lk)
  obtain ⟨o, hz⟩ := hz
  refine ⟨[a], [.fro (ns.map Val.int)], [.ref 0], ⟨rfl, ?_, ?_⟩, .cons (.ref rfl) .nil, ?_⟩
  · intro i j b e1 e2
    match i, j with
    | 0, 0 => rfl
    | i + 1, _ => simp at e1
    | _, j + 1 => simp at e2
  · intro i ob b e1 e2
    match i with
    | 0 =>
      simp at e1 e2
      subst e1 e2
      exact .fro hz (reps_ints ns)
    | i + 1 => simp at e1
  · obtain ⟨h, e⟩ := p ns hl
    rw [e]
    intro ρ1 v H1 s R1 r
    exact r.bl_
/-- a row's end: what walk_ofE does, for a def that may raise inside -/
theorem walk_W {l : PySem.W.OpenLaw} {n k : Nat} {q : Program} {loose : List Str} {XP : (Str → Option Value) → Heap → Prop} {YP : World → Heap → Prop} {d : DefRec} {x : Str}
    (hn : l.most = some n) (hn2 : n ≤ sizeLine) (hdf : d.params.defaults = []) (hr : Room k callerA)
    (F : ∀ (w : World) (mg : Str → Option Value) (f : Addr) (h : Heap), YP w h → h.Ns mainGlobals mg → mg d.name = some (.ref f) →
      ∃ (K : Frag) (fd : FuncData) (sp : Sp), K.In h ∧ (∀ (s : Shared) (u : Value), BindsTo s fd ⟨[u], []⟩ [(x, u)]) ∧
        (∀ (H : Hp) (a : Addr) (ns : List Int), ns.length ≤ n → Only H → SqL K H a (ns.map V.int) → sp [.ref a] H (fun v _ => v = .bl true) fun _ _ _ => False) ∧
        ∀ base : Heap, K.In base → base.Ns mainGlobals mg → FnOk l.prog w K mg base (L2.CX l.prog w) k f fd [x] sp) :
    PySem.W.WalkO q loose XP YP l.row.toRowW d [] (fun f vs => PySem.call f vs) := by
  refine Att.attach_call hn hdf ?_
  intro w sA sB mg mb f o pm cd doc a vs ns G Y ho hd hcd hmg hobj hints hlen hgn
  have z := F w mg f _ Y G.T.g hmg
  obtain ⟨K, fd, sp, hK, bind, told, keeps⟩ := z
  refine law_call hK G.T.g G.T.b G.T.builtins G.T.nolimit hgn hobj hints (Nat.le_trans hlen hn2) hr keeps bind ?_ ?_
  · exact fun H only sq => told H a ns hlen only sq
  · intro H e s' h
    obtain ⟨_, _, _, _, _, _, _, _, _, _, _, _, z⟩ := h
    exact z.elim
end Lad
end
/-! ## LadPl -/
section
set_option maxRecDepth 10000
namespace Lad
open PySem L2
/-! ### equations for running evaluators by hand -/
section
variable (f g f1 f2 f3 : En → Hea → Res Val) (s s1 s2 : En → Hea → SRes) (l l2 : En → Hea → Res (List Val)) (e : En) (h : Hea)
@[simp] theorem ap_seq : sSeq s1 s2 e h = match s1 e h with | .nx e1 h1 => s2 e1 h1 | r => r := rfl
@[simp] theorem ap_nil : sNil e h = .nx e h := rfl
@[simp] theorem ap_set (i) : sSet i f e h = ofR (f e h) e fun d h1 => .nx (e.set i (some d)) h1 := rfl
@[simp] theorem ap_ret : sRet f e h = ofR (f e h) e fun d h1 => .rt d h1 := rfl
@[simp] theorem ap_retN : sRetN e h = .rt .non h := rfl
@[simp] theorem ap_ex : sEx f e h = ofR (f e h) e fun _ h1 => .nx e h1 := rfl
@[simp] theorem ap_if : sIf f s1 s2 e h = ofR (f e h) e fun d h1 => match d with | .bl true => s1 e h1 | .bl false => s2 e h1 | _ => .stuck := rfl
@[simp] theorem ap_par (is) : sPar is l e h = ofR (l e h) e fun ds h1 => match setAll is ds e with | some e1 => .nx e1 h1 | none => .stuck := rfl
@[simp] theorem ap_asg (b) : sAsg b f e h = ofR (f e h) e fun d h1 => match b d e with | some e1 => .nx e1 h1 | none => .stuck := rfl
@[simp] theorem ap_gT (is xs) : gT is (.tup xs) e = setAll is xs e := rfl
@[simp] theorem ap_gN (i v) : gN i v e = some (e.set i (some v)) := rfl
@[simp] theorem ap_all0 : setAll [] [] e = some e := rfl
@[simp] theorem ap_all1 (i is v vs) : setAll (i :: is) (v :: vs) e = setAll is vs (e.set i (some v)) := rfl
@[simp] theorem ap_ofOk {α : Type} (a : α) (k : α → Hea → SRes) : ofR (.ok a h) e k = k a h := rfl
@[simp] theorem ap_ofExc {α : Type} (c d) (k : α → Hea → SRes) : ofR (.exc c d h) e k = .exc c d e h := rfl
@[simp] theorem ap_bindOk {α β : Type} (a : α) (k : α → Hea → Res β) : (Res.ok a h).bind k = k a h := rfl
@[simp] theorem ap_bindExc {α β : Type} (c d) (k : α → Hea → Res β) : (Res.exc c d h : Res α).bind k = .exc c d h := rfl
@[simp] theorem ap_var (i) : eVar i e h = match e[i]? with | some (some d) => .ok d h | _ => .stuck := rfl
@[simp] theorem ap_c (d) : eC d e h = .ok d h := rfl
@[simp] theorem ap_bin (o) : eBin o f1 f2 e h = (f1 e h).bind fun x h1 => (f2 e h1).bind fun y h2 => opt (o h2 x y) h2 := rfl
@[simp] theorem ap_un (o) : eUn o f e h = (f e h).bind fun x h1 => opt (o h1 x) h1 := rfl
@[simp] theorem ap_and : eAnd f1 f2 e h = (f1 e h).bind fun x h1 => match x with | .bl true => f2 e h1 | .bl false => .ok (.bl false) h1 | _ => .stuck := rfl
@[simp] theorem ap_or : eOr f1 f2 e h = (f1 e h).bind fun x h1 => match x with | .bl true => .ok (.bl true) h1 | .bl false => f2 e h1 | _ => .stuck := rfl
@[simp] theorem ap_eif : eIf f1 f2 f3 e h = (f1 e h).bind fun x h1 => match x with | .bl true => f2 e h1 | .bl false => f3 e h1 | _ => .stuck := rfl
@[simp] theorem ap_anil : aNil e h = .ok [] h := rfl
@[simp] theorem ap_acons : aCons f l e h = (f e h).bind fun x h1 => (l e h1).bind fun xs h2 => .ok (x :: xs) h2 := rfl
@[simp] theorem ap_cb (o) : eCB o l e h = (l e h).bind fun ds h1 => opt (o h1 ds) h1 := rfl
@[simp] theorem ap_call (cf) : eCall cf l e h = (l e h).bind cf := rfl
@[simp] theorem ap_it (o) : eIt o f e h = (f e h).bind fun d h1 => match itemsOf h1 d with | some xs => opt (o xs) h1 | none => .stuck := rfl
@[simp] theorem ap_itL (o) : eItL o l e h = (l e h).bind fun xs h1 => opt (o xs) h1 := rfl
@[simp] theorem ap_tup : eTup l e h = (l e h).bind fun xs h1 => if xs.length ≤ 16777216 then .ok (.tup xs) h1 else .stuck := rfl
@[simp] theorem ap_disp : lDisp l e h = (l e h).bind fun xs h1 => if xs.length ≤ 16777216 then .ok xs h1 else .stuck := rfl
@[simp] theorem ap_new : eNew l e h = (l e h).bind fun xs h1 => .ok (.ref h1.length) (h1 ++ [.lst xs]) := rfl
@[simp] theorem ap_chain (o o') : eChain o o' f1 f2 f3 e h = (f1 e h).bind fun x h1 => (f2 e h1).bind fun y h2 => match o h2 x y with | some (.bl true) => (f3 e h2).bind fun z h3 => opt (o' h3 y z) h3 | some (.bl false) => .ok (.bl false) h2 | _ => .stuck := rfl
@[simp] theorem ap_optS (d) : opt (some d) h = .ok d h := rfl
@[simp] theorem ap_raise (c) : sRaise c f e h = ofR (f e h) e fun d h1 => .exc c d e h1 := rfl
@[simp] theorem ap_yes : eYes e h = .ok (.bl true) h := rfl
@[simp] theorem ap_noX {α : Type} (a : α) : noX (.ok a h) = .ok a h := rfl
/-! operators -/
@[simp] theorem op_add (a b) : oAdd h (.int a) (.int b) = some (.int (a + b)) := rfl
@[simp] theorem op_sub (a b) : oSub h (.int a) (.int b) = some (.int (a - b)) := rfl
@[simp] theorem op_mul (a b) : oMul h (.int a) (.int b) = if mulOk a b = true then some (.int (a * b)) else none := rfl
@[simp] theorem op_div (a b) : oDiv h (.int a) (.int b) = if b ≠ 0 ∧ b.natAbs.log2 < 9000 then some (.int (a.fdiv b)) else none := rfl
@[simp] theorem op_mod (a b) : oMod h (.int a) (.int b) = if b ≠ 0 then some (.int (a.fmod b)) else none := rfl
@[simp] theorem op_neg (a) : oNeg h (.int a) = some (.int (-a)) := rfl
@[simp] theorem op_lt (a b) : oLt h (.int a) (.int b) = some (.bl (decide (a < b))) := rfl
@[simp] theorem op_le (a b) : oLe h (.int a) (.int b) = some (.bl (decide (a ≤ b))) := rfl
@[simp] theorem op_gt (a b) : oGt h (.int a) (.int b) = some (.bl (decide (b < a))) := rfl
@[simp] theorem op_ge (a b) : oGe h (.int a) (.int b) = some (.bl (decide (b ≤ a))) := rfl
@[simp] theorem op_not (b) : oNot h (.bl b) = some (.bl (!b)) := rfl
@[simp] theorem op_isb (a b) : oIs h (.bl a) (.bl b) = some (.bl (decide (a = b))) := rfl
@[simp] theorem op_isnb (a b) : oIsNot h (.bl a) (.bl b) = some (.bl (!decide (a = b))) := rfl
@[simp] theorem g_abs' (a) : gAbs h [.int a] = some (.int (a.natAbs : Int)) := by
  show some (Val.int (if a < 0 then -a else a)) = _
  congr 2
  split <;> omega
@[simp] theorem g_int' (a) : gInt h [.int a] = some (.int a) := rfl
@[simp] theorem g_intb (a) : gInt h [.bl a] = some (.int (if a then 1 else 0)) := rfl
@[simp] theorem g_len' (xs) : gLen xs = some (.int xs.length) := rfl
@[simp] theorem it_tup (xs) : itemsOf h (.tup xs) = some xs := rfl
@[simp] theorem it_ref (i) : itemsOf h (.ref i) = lstAt h i := rfl
theorem bl_beq (a b : Bool) : PyData.eqv (.bool a) (.bool b) = (a == b) := by unfold PyData.eqv; rfl
@[simp] theorem eq_int (a b : Int) : eqB h (.int a) (.int b) = some (decide (a = b)) := by
  unfold eqB
  simp only [toD]
  rw [if_pos ⟨rfl, rfl⟩]
  simp [PyData.eqv]
  rfl
@[simp] theorem eq_bl (a b : Bool) : eqB h (.bl a) (.bl b) = some (decide (a = b)) := by
  unfold eqB
  simp only [toD]
  rw [if_pos ⟨rfl, rfl⟩]
  cases a <;> cases b <;> rfl
@[simp] theorem eq_tup2 (a b c d : Int) : eqB h (.tup [.int a, .int b]) (.tup [.int c, .int d]) = some (decide (a = c ∧ b = d)) := by
  unfold eqB
  simp only [toD, mapO]
  rw [if_pos ⟨rfl, rfl⟩]
  simp only [PyData.eqv, PyData.eqvAll, Bool.and_true]
  by_cases h1 : a = c <;> by_cases h2 : b = d <;> simp [h1, h2]
@[simp] theorem op_eq (a b) : oEq h a b = (eqB h a b).map .bl := rfl
@[simp] theorem op_ne (a b) : oNe h a b = (eqB h a b).map fun c => .bl (!c) := rfl
@[simp] theorem op_ix0 (a b : Val) : oIx h (.tup [a, b]) (.int 0) = some a := rfl
@[simp] theorem op_ix1 (a b : Val) : oIx h (.tup [a, b]) (.int 1) = some b := rfl
end
/-! ### sizes -/
theorem log2_lt {i : Int} {k : Nat} (h : i.natAbs < 2 ^ k) (hk : 0 < k) : i.natAbs.log2 < k := by
  by_cases hz : i.natAbs = 0
  · rw [hz]; simpa using hk
  · exact (Nat.log2_lt hz).mpr h
theorem mulOk_of {i j : Int} (h1 : i.natAbs < 2 ^ 400000) (h2 : j.natAbs < 2 ^ 400000) : mulOk i j = true := by
  unfold mulOk
  have a := log2_lt h1 (by decide)
  have b := log2_lt h2 (by decide)
  rw [Bool.or_eq_true]
  right
  exact decide_eq_true (by omega)
theorem mulOk_l {i j : Int} (h : i.natAbs < 2 ^ 64) : mulOk i j = true := by
  unfold mulOk
  rw [Bool.or_eq_true]
  left
  exact decide_eq_true (.inl (by omega))
theorem mulOk_r {i j : Int} (h : j.natAbs < 2 ^ 64) : mulOk i j = true := by
  unfold mulOk
  rw [Bool.or_eq_true]
  left
  exact decide_eq_true (.inr (by omega))
/-! ### defs -/
theorem fin_flat {h : Hea} {d : Val} (hd : d.flat = true) : fin h d h = .ok d h := by
  unfold fin
  rw [if_pos (begins_rfl h), if_pos hd]
end Lad
end
/-! ## K01E -/
section
set_option maxRecDepth 100000
set_option maxHeartbeats 1000000
namespace K01
open PySem L2 Lad
def top (i : Nat) : Stmt := PySem.Challenge.pw_liftedladders_k01_fractions.main.body.getD i (.Pass ⟨0, 0, 0, 0⟩)
def fldN : Nat → Str
  | 0 => ""
  | 1 => "number"
  | _ => ""
def caK (K : PySem.W.Frag) : Nat → Addr
  | 0 => He.ga K "LadderError"
  | 1 => He.ga K "BadNumber"
  | _ => 0
abbrev TT (K : PySem.W.Frag) : Tb := ⟨caK K, fun _ => "", fldN, none⟩
def sub_BadNumber : Nat → Option Bool
  | 1 => some true
  | _ => none
def sub_LadderError : Nat → Option Bool
  | 1 => some true
  | _ => none
def b_is_whole : En → Hea → SRes := (sRet (eAnd (eUn (oIsi [.int]) (eVar 0)) (eUn oNot (eUn (oIsi [.bool]) (eVar 0)))))
def c_is_whole : List Val → Hea → Res Val := runB 1 1 b_is_whole
def l_common_divisor_0 : En → Hea → SRes := (sPar [0, 1] (aCons (eVar 1) (aCons (eBin oMod (eCB gInt (aCons (eVar 0) aNil)) (eCB gInt (aCons (eVar 1) aNil))) aNil)))
def b_common_divisor : En → Hea → SRes := (sSeq (sPar [0, 1] (aCons (eCB gAbs (aCons (eVar 0) aNil)) (aCons (eCB gAbs (aCons (eVar 1) aNil)) aNil)))
  (sSeq (sWhile 5000 (eBin oGt (eVar 1) (eC (.int 0))) l_common_divisor_0)
  (sRet (eVar 0))))
def c_common_divisor : List Val → Hea → Res Val := runB 2 2 b_common_divisor
def b_is_above : En → Hea → SRes := (sRet (eBin oGt (eBin oMul (eBin oIx (eVar 0) (eC (.int 0))) (eBin oIx (eVar 1) (eC (.int 1)))) (eBin oMul (eBin oIx (eVar 1) (eC (.int 0))) (eBin oIx (eVar 0) (eC (.int 1))))))
def c_is_above : List Val → Hea → Res Val := runB 2 2 b_is_above
def b__law_pool : En → Hea → SRes := (sSeq (sSet 2 (eIf (eBin oLt (eVar 1) (eIt gLen (eVar 0))) (eBin oIx (eVar 0) (eVar 1)) (eBin oAdd (eBin oMul (eC (.int 7)) (eItL gSum (lCut (eVar 0) none (some (eC (.int 63)))))) (eVar 1))))
  (sSeq (sSet 3 (eCB gAbs (aCons (eVar 2) aNil)))
  (sSeq (sSet 4 (eBin oAdd (eBin oAdd (eBin oAdd (eBin oMod (eCB gInt (aCons (eVar 3) aNil)) (eC (.int 2147483629))) (eBin oMul (eBin oMul (eC (.int 7919)) (eVar 1)) (eVar 1))) (eBin oMul (eC (.int 31)) (eVar 1))) (eC (.int 17))))
  (sSeq (sSet 4 (eBin oMod (eCB gInt (aCons (eBin oMul (eVar 4) (eC (.int 48271))) aNil)) (eC (.int 2147483647))))
  (sRet (eNew (lDisp (aCons (eBin oMul (eVar 3) (eCB gInt (aCons (eBin oGe (eVar 3) (eBin oPow (eC (.int 10)) (eC (.int 18)))) aNil))) (aCons (eBin oMod (eCB gInt (aCons (eBin oMul (eVar 4) (eVar 4)) aNil)) (eC (.int 2147483629))) aNil)))))))))
def c__law_pool : List Val → Hea → Res Val := runB 2 5 b__law_pool
def b__law_draw : En → Hea → SRes := (sSeq (sIf (eBin oGt (eBin oIx (eVar 0) (eC (.int 0))) (eC (.int 0))) (sSeq (sSet 2 (eBin oMod (eCB gInt (aCons (eBin oIx (eVar 0) (eC (.int 0))) aNil)) (eVar 1)))
  (sSeq (sSetIx (eBin oDiv (eBin oIx (eVar 0) (eC (.int 0))) (eVar 1)) (eVar 0) (eC (.int 0)))
  (sRet (eVar 2)))) sNil)
  (sSeq (sSetIx (eBin oMod (eCB gInt (aCons (eBin oAdd (eBin oMul (eBin oIx (eVar 0) (eC (.int 1))) (eC (.int 48271))) (eC (.int 11))) aNil)) (eC (.int 2147483647))) (eVar 0) (eC (.int 1)))
  (sRet (eBin oMod (eCB gInt (aCons (eBin oDiv (eBin oMod (eCB gInt (aCons (eBin oMul (eBin oIx (eVar 0) (eC (.int 1))) (eBin oIx (eVar 0) (eC (.int 1)))) aNil)) (eC (.int 2147483629))) (eC (.int 16))) aNil)) (eVar 1)))))
def c__law_draw : List Val → Hea → Res Val := runB 2 3 b__law_draw
def l__law_right_fraction_0 : En → Hea → SRes := (sPar [1, 2] (aCons (eVar 2) (aCons (eBin oMod (eCB gInt (aCons (eVar 1) aNil)) (eVar 2)) aNil)))
def b__law_right_fraction : En → Hea → SRes := (sSeq (sIf (eOr (eUn oNot (eUn (oIsi [.tuple]) (eVar 0))) (eBin oNe (eIt gLen (eVar 0)) (eC (.int 2)))) (sRet (eC (.bl false))) sNil)
  (sSeq (sIf (eBin oNe (eNew (lComp [3] (iSeq (eVar 0)) (gN 3) (eOr (eUn oNot (eUn (oIsi [.int]) (eVar 3))) (eUn (oIsi [.bool]) (eVar 3))) (eVar 3))) (eNew (lDisp aNil))) (sRet (eC (.bl false))) sNil)
  (sSeq (sPar [1, 2] (aCons (eCB gAbs (aCons (eBin oIx (eVar 0) (eC (.int 0))) aNil)) (aCons (eBin oIx (eVar 0) (eC (.int 1))) aNil)))
  (sSeq (sWhile 5000 (eBin oNe (eVar 2) (eC (.int 0))) l__law_right_fraction_0)
  (sRet (eAnd (eBin oGt (eBin oIx (eVar 0) (eC (.int 1))) (eC (.int 0))) (eBin oEq (eVar 1) (eC (.int 1)))))))))
def c__law_right_fraction : List Val → Hea → Res Val := runB 1 4 b__law_right_fraction
def b_is_integer : En → Hea → SRes := (sRet (eAnd (eCall c_is_whole (aCons (eVar 0) aNil)) (eChain oLe oLe (eVar 1) (eVar 0) (eVar 2))))
def c_is_integer : List Val → Hea → Res Val := runB 3 3 b_is_integer
def b_is_fraction : En → Hea → SRes := (sSeq (sIf (eOr (eUn oNot (eUn (oIsi [.tuple]) (eVar 0))) (eOr (eBin oNe (eIt gLen (eVar 0)) (eC (.int 2))) (eUn oNot (eItL gAll (lComp [1] (iSeq (eVar 0)) (gN 1) eYes (eCall c_is_whole (aCons (eVar 1) aNil))))))) (sRet (eC (.bl false))) sNil)
  (sRet (eAnd (eBin oGt (eBin oIx (eVar 0) (eC (.int 1))) (eC (.int 0))) (eBin oEq (eCall c_common_divisor (aCons (eBin oIx (eVar 0) (eC (.int 0))) (aCons (eBin oIx (eVar 0) (eC (.int 1))) aNil))) (eC (.int 1))))))
def c_is_fraction : List Val → Hea → Res Val := runB 1 2 b_is_fraction
def b_fraction : En → Hea → SRes := (sSeq (sIf (eBin oEq (eVar 1) (eC (.int 0))) (sRaise 1 (eVar 1)) sNil)
  (sSeq (sSet 2 (eIf (eBin oGt (eVar 1) (eC (.int 0))) (eCall c_common_divisor (aCons (eVar 0) (aCons (eVar 1) aNil))) (eUn oNeg (eCall c_common_divisor (aCons (eVar 0) (aCons (eVar 1) aNil))))))
  (sRet (eTup (aCons (eBin oDiv (eVar 0) (eVar 2)) (aCons (eBin oDiv (eVar 1) (eVar 2)) aNil))))))
def c_fraction : List Val → Hea → Res Val := runB 2 3 b_fraction
def b__law_pick : En → Hea → SRes := (sRet (eBin oIx (eVar 1) (eCall c__law_draw (aCons (eVar 0) (aCons (eIt gLen (eVar 1)) aNil)))))
def c__law_pick : List Val → Hea → Res Val := runB 2 2 b__law_pick
def b__law_is : En → Hea → SRes := (sRet (eAnd (eCall c__law_right_fraction (aCons (eVar 0) aNil)) (eBin oEq (eBin oMul (eBin oIx (eVar 0) (eC (.int 0))) (eVar 2)) (eBin oMul (eVar 1) (eBin oIx (eVar 0) (eC (.int 1)))))))
def c__law_is : List Val → Hea → Res Val := runB 3 3 b__law_is
def b_added : En → Hea → SRes := (sRet (eCall c_fraction (aCons (eBin oAdd (eBin oMul (eBin oIx (eVar 0) (eC (.int 0))) (eBin oIx (eVar 1) (eC (.int 1)))) (eBin oMul (eBin oIx (eVar 1) (eC (.int 0))) (eBin oIx (eVar 0) (eC (.int 1))))) (aCons (eBin oMul (eBin oIx (eVar 0) (eC (.int 1))) (eBin oIx (eVar 1) (eC (.int 1)))) aNil))))
def c_added : List Val → Hea → Res Val := runB 2 2 b_added
def b_less : En → Hea → SRes := (sRet (eCall c_fraction (aCons (eBin oSub (eBin oMul (eBin oIx (eVar 0) (eC (.int 0))) (eBin oIx (eVar 1) (eC (.int 1)))) (eBin oMul (eBin oIx (eVar 1) (eC (.int 0))) (eBin oIx (eVar 0) (eC (.int 1))))) (aCons (eBin oMul (eBin oIx (eVar 0) (eC (.int 1))) (eBin oIx (eVar 1) (eC (.int 1)))) aNil))))
def c_less : List Val → Hea → Res Val := runB 2 2 b_less
def b_multiplied : En → Hea → SRes := (sRet (eCall c_fraction (aCons (eBin oMul (eBin oIx (eVar 0) (eC (.int 0))) (eBin oIx (eVar 1) (eC (.int 0)))) (aCons (eBin oMul (eBin oIx (eVar 0) (eC (.int 1))) (eBin oIx (eVar 1) (eC (.int 1)))) aNil))))
def c_multiplied : List Val → Hea → Res Val := runB 2 2 b_multiplied
def b__law_number : En → Hea → SRes := (sRet (eCall c__law_pick (aCons (eVar 0) (aCons (eNew (lDisp (aCons (eC (.int 0)) (aCons (eC (.int 1)) (aCons (eUn oNeg (eC (.int 1))) (aCons (eC (.int 6)) (aCons (eUn oNeg (eC (.int 6))) (aCons (eBin oSub (eCall c__law_draw (aCons (eVar 0) (aCons (eBin oMul (eC (.int 2)) (eBin oPow (eC (.int 10)) (eC (.int 30)))) aNil))) (eBin oPow (eC (.int 10)) (eC (.int 30)))) (aCons (eCall c__law_draw (aCons (eVar 0) (aCons (eC (.int 12)) aNil))) aNil))))))))) aNil))))
def c__law_number : List Val → Hea → Res Val := runB 1 1 b__law_number
def b__law_refused : En → Hea → SRes := (sSeq (sTry1 sub_BadNumber 2 (sEx (eCall c_fraction (aCons (eVar 0) (aCons (eVar 1) aNil)))) (sRet (eNew (lDisp (aCons (eCB gReprB (aCons (eUn oExF (eVar 2)) aNil)) (aCons (eUn (oIsX sub_LadderError) (eVar 2)) aNil))))))
  (sRet (eC .non)))
def c__law_refused : List Val → Hea → Res Val := runB 2 3 b__law_refused
def l_law_0 : En → Hea → SRes := (sSeq (sAsg (gT [4, 5, 6, 7]) (eTup (aCons (eCall c__law_number (aCons (eVar 2) aNil)) (aCons (eCall c__law_number (aCons (eVar 2) aNil)) (aCons (eCall c__law_number (aCons (eVar 2) aNil)) (aCons (eCall c__law_number (aCons (eVar 2) aNil)) aNil))))))
  (sSeq (sPar [5, 7] (aCons (eIf (eBin oNe (eVar 5) (eC (.int 0))) (eVar 5) (eC (.int 7))) (aCons (eIf (eBin oNe (eVar 7) (eC (.int 0))) (eVar 7) (eUn oNeg (eC (.int 4)))) aNil)))
  (sSeq (sPar [8, 9] (aCons (eCall c_fraction (aCons (eVar 4) (aCons (eVar 5) aNil))) (aCons (eCall c_fraction (aCons (eVar 6) (aCons (eVar 7) aNil))) aNil)))
  (sSeq (sIf (eOr (eUn oNot (eCall c__law_is (aCons (eVar 8) (aCons (eVar 4) (aCons (eVar 5) aNil))))) (eUn oNot (eCall c__law_is (aCons (eVar 9) (aCons (eVar 6) (aCons (eVar 7) aNil)))))) (sRet (eC (.bl false))) sNil)
  (sSeq (sIf (eBin oNe (eCall c__law_refused (aCons (eVar 4) (aCons (eC (.int 0)) aNil))) (eNew (lDisp (aCons (eC (.str "0")) (aCons (eC (.bl true)) aNil))))) (sRet (eC (.bl false))) sNil)
  (sSeq (sIf (eUn oNot (eCall c__law_is (aCons (eCall c_added (aCons (eVar 8) (aCons (eVar 9) aNil))) (aCons (eBin oAdd (eBin oMul (eVar 4) (eVar 7)) (eBin oMul (eVar 6) (eVar 5))) (aCons (eBin oMul (eVar 5) (eVar 7)) aNil))))) (sRet (eC (.bl false))) sNil)
  (sSeq (sIf (eUn oNot (eCall c__law_is (aCons (eCall c_less (aCons (eVar 8) (aCons (eVar 9) aNil))) (aCons (eBin oSub (eBin oMul (eVar 4) (eVar 7)) (eBin oMul (eVar 6) (eVar 5))) (aCons (eBin oMul (eVar 5) (eVar 7)) aNil))))) (sRet (eC (.bl false))) sNil)
  (sSeq (sIf (eUn oNot (eCall c__law_is (aCons (eCall c_multiplied (aCons (eVar 8) (aCons (eVar 9) aNil))) (aCons (eBin oMul (eVar 4) (eVar 6)) (aCons (eBin oMul (eVar 5) (eVar 7)) aNil))))) (sRet (eC (.bl false))) sNil)
  (sSeq (sIf (eBin oNe (eCB gReprB (aCons (eCall c_is_above (aCons (eVar 8) (aCons (eVar 9) aNil))) aNil)) (eCB gReprB (aCons (eBin oGt (eBin oMul (eBin oIx (eVar 8) (eC (.int 0))) (eBin oIx (eVar 9) (eC (.int 1)))) (eBin oMul (eBin oIx (eVar 9) (eC (.int 0))) (eBin oIx (eVar 8) (eC (.int 1))))) aNil))) (sRet (eC (.bl false))) sNil)
  (sSeq (sIf (eBin oIsNot (eCall c_is_above (aCons (eVar 8) (aCons (eVar 8) aNil))) (eC (.bl false))) (sRet (eC (.bl false))) sNil)
  (sSeq (sIf (eOr (eBin oIsNot (eCall c_is_fraction (aCons (eVar 8) aNil)) (eC (.bl true))) (eBin oIsNot (eCall c_is_fraction (aCons (eTup (aCons (eBin oMul (eBin oIx (eVar 8) (eC (.int 0))) (eC (.int 2))) (aCons (eBin oMul (eBin oIx (eVar 8) (eC (.int 1))) (eC (.int 2))) aNil))) aNil)) (eC (.bl false)))) (sRet (eC (.bl false))) sNil)
  (sSeq (sIf (eOr (eBin oIsNot (eCall c_is_fraction (aCons (eTup (aCons (eBin oIx (eVar 8) (eC (.int 0))) (aCons (eBin oSub (eC (.int 0)) (eBin oIx (eVar 8) (eC (.int 1)))) aNil))) aNil)) (eC (.bl false))) (eBin oIsNot (eCall c_is_fraction (aCons (eNew (lOf (eVar 8))) aNil)) (eC (.bl false)))) (sRet (eC (.bl false))) sNil)
  (sSeq (sIf (eBin oIsNot (eCall c_is_integer (aCons (eVar 4) (aCons (eBin oSub (eVar 4) (eC (.int 5))) (aCons (eBin oSub (eVar 4) (eC (.int 1))) aNil)))) (eC (.bl false))) (sRet (eC (.bl false))) sNil)
  (sSeq (sIf (eBin oNe (eCall c_is_fraction (aCons (eTup (aCons (eVar 4) (aCons (eVar 5) aNil))) aNil)) (eBin oEq (eVar 8) (eTup (aCons (eVar 4) (aCons (eVar 5) aNil))))) (sRet (eC (.bl false))) sNil)
  (sSeq (sIf (eBin oIsNot (eCall c_is_integer (aCons (eVar 4) (aCons (eVar 4) (aCons (eVar 4) aNil)))) (eC (.bl true))) (sRet (eC (.bl false))) sNil)
  (sIf (eOr (eBin oIsNot (eCall c_is_integer (aCons (eVar 4) (aCons (eBin oAdd (eVar 4) (eC (.int 1))) (aCons (eBin oAdd (eVar 4) (eC (.int 5))) aNil)))) (eC (.bl false))) (eBin oIsNot (eCall c_is_integer (aCons (eC (.bl true)) (aCons (eC (.int 0)) (aCons (eC (.int 5)) aNil)))) (eC (.bl false)))) (sRet (eC (.bl false))) sNil))))))))))))))))
def l_law_1 : En → Hea → SRes := (sIf (eBin oIsNot (eCall c_is_fraction (aCons (eVar 10) aNil)) (eC (.bl false))) (sRet (eC (.bl false))) sNil)
def l_law_2 : En → Hea → SRes := (sIf (eBin oIsNot (eCall c_is_integer (aCons (eVar 10) (aCons (eUn oNeg (eC (.int 5))) (aCons (eC (.int 5)) aNil)))) (eC (.bl false))) (sRet (eC (.bl false))) sNil)
def l_law_3 : En → Hea → SRes := (sSeq (sSet 2 (eCall c__law_pool (aCons (eVar 0) (aCons (eVar 1) aNil))))
  (sSeq (sFor (iRng1V (aCons (eC (.int 6)) aNil)) (gN 3) l_law_0)
  (sSeq (sFor (iTmp (lDisp (aCons (eC .non) (aCons (eC (.int 5)) (aCons (eTup aNil) (aCons (eTup (aCons (eC (.int 1)) aNil)) (aCons (eTup (aCons (eC (.int 1)) (aCons (eC (.int 0)) aNil))) (aCons (eTup (aCons (eC (.int 0)) (aCons (eC (.int 2)) aNil))) (aCons (eTup (aCons (eC (.int 1)) (aCons (eC (.bl true)) aNil))) (aCons (eTup (aCons (eC (.bl true)) (aCons (eC (.int 1)) aNil))) (aCons (eTup (aCons (eC (.int 1)) (aCons (eC (.int 2)) (aCons (eC (.int 3)) aNil)))) (aCons (eC (.str "12")) (aCons (eTup (aCons (eC (.str "1")) (aCons (eC (.int 2)) aNil))) aNil))))))))))))) (gN 10) l_law_1)
  (sFor (iTmp (lDisp (aCons (eC .non) (aCons (eC (.bl false)) (aCons (eC (.str "1")) (aCons (eTup (aCons (eC (.int 1)) aNil)) aNil)))))) (gN 10) l_law_2))))
def b_law : En → Hea → SRes := (sSeq (sFor (iRng1V (aCons (eCB gMax2 (aCons (eC (.int 1)) (aCons (eCB gMin2 (aCons (eIt gLen (eVar 0)) (aCons (eC (.int 4)) aNil))) aNil))) aNil)) (gN 1) l_law_3)
  (sRet (eC (.bl true))))
def c_law : List Val → Hea → Res Val := runB 1 11 b_law
/-- the plain law: every script of at most 63 ints gives True -/
def Plain : Prop := ∀ ns : List Int, ns.length ≤ 63 → ∃ h, c_law [.ref 0] [.fro (ns.map Val.int)] = .ok (.bl true) h
end K01
end
/-! ## K01A -/
section
set_option maxRecDepth 100000
set_option maxHeartbeats 1000000
namespace K01
open PySem L2 Lad
abbrev e_BadNumber : ErD := ⟨"BadNumber", inClass (top 2) 0, "BadNumber.__init__", "number"⟩
theorem ini_BadNumber : InitOk e_BadNumber.st e_BadNumber.fld := ⟨⟨_, _, _, _, _, _, _, _, _, _, _, _, rfl, fun env => ⟨_, rfl⟩⟩, ⟨_, _, rfl⟩, by decide +kernel, rfl, rfl, rfl, by decide +kernel, by decide +kernel, by decide +kernel, by decide +kernel, by decide +kernel, by decide +kernel⟩
structure Txt (P : Program) (K : PySem.W.Frag) (mg : Str → Option Value) : Prop where
  z_abs : mg "abs" = none
  z_all : mg "all" = none
  z_bool : mg "bool" = none
  z_int : mg "int" = none
  z_isinstance : mg "isinstance" = none
  z_len : mg "len" = none
  z_list : mg "list" = none
  z_max : mg "max" = none
  z_min : mg "min" = none
  z_range : mg "range" = none
  z_repr : mg "repr" = none
  z_sum : mg "sum" = none
  z_tuple : mg "tuple" = none
  F_is_whole : Fun K "is_whole" "is_whole" (top 5) (He.ga K "is_whole") (fdOf K (He.ga K "is_whole"))
  g_is_whole : mg "is_whole" = some (.ref (He.ga K "is_whole"))
  F_common_divisor : Fun K "common_divisor" "common_divisor" (top 6) (He.ga K "common_divisor") (fdOf K (He.ga K "common_divisor"))
  g_common_divisor : mg "common_divisor" = some (.ref (He.ga K "common_divisor"))
  F_is_above : Fun K "is_above" "is_above" (top 12) (He.ga K "is_above") (fdOf K (He.ga K "is_above"))
  g_is_above : mg "is_above" = some (.ref (He.ga K "is_above"))
  F__law_pool : Fun K "_law_pool" "_law_pool" (top 14) (He.ga K "_law_pool") (fdOf K (He.ga K "_law_pool"))
  g__law_pool : mg "_law_pool" = some (.ref (He.ga K "_law_pool"))
  F__law_draw : Fun K "_law_draw" "_law_draw" (top 15) (He.ga K "_law_draw") (fdOf K (He.ga K "_law_draw"))
  g__law_draw : mg "_law_draw" = some (.ref (He.ga K "_law_draw"))
  F__law_right_fraction : Fun K "_law_right_fraction" "_law_right_fraction" (top 17) (He.ga K "_law_right_fraction") (fdOf K (He.ga K "_law_right_fraction"))
  g__law_right_fraction : mg "_law_right_fraction" = some (.ref (He.ga K "_law_right_fraction"))
  F_is_integer : Fun K "is_integer" "is_integer" (top 4) (He.ga K "is_integer") (fdOf K (He.ga K "is_integer"))
  g_is_integer : mg "is_integer" = some (.ref (He.ga K "is_integer"))
  F_is_fraction : Fun K "is_fraction" "is_fraction" (top 7) (He.ga K "is_fraction") (fdOf K (He.ga K "is_fraction"))
  g_is_fraction : mg "is_fraction" = some (.ref (He.ga K "is_fraction"))
  F_fraction : Fun K "fraction" "fraction" (top 8) (He.ga K "fraction") (fdOf K (He.ga K "fraction"))
  g_fraction : mg "fraction" = some (.ref (He.ga K "fraction"))
  F__law_pick : Fun K "_law_pick" "_law_pick" (top 16) (He.ga K "_law_pick") (fdOf K (He.ga K "_law_pick"))
  g__law_pick : mg "_law_pick" = some (.ref (He.ga K "_law_pick"))
  F__law_is : Fun K "_law_is" "_law_is" (top 18) (He.ga K "_law_is") (fdOf K (He.ga K "_law_is"))
  g__law_is : mg "_law_is" = some (.ref (He.ga K "_law_is"))
  F_added : Fun K "added" "added" (top 9) (He.ga K "added") (fdOf K (He.ga K "added"))
  g_added : mg "added" = some (.ref (He.ga K "added"))
  F_less : Fun K "less" "less" (top 10) (He.ga K "less") (fdOf K (He.ga K "less"))
  g_less : mg "less" = some (.ref (He.ga K "less"))
  F_multiplied : Fun K "multiplied" "multiplied" (top 11) (He.ga K "multiplied") (fdOf K (He.ga K "multiplied"))
  g_multiplied : mg "multiplied" = some (.ref (He.ga K "multiplied"))
  F__law_number : Fun K "_law_number" "_law_number" (top 19) (He.ga K "_law_number") (fdOf K (He.ga K "_law_number"))
  g__law_number : mg "_law_number" = some (.ref (He.ga K "_law_number"))
  F__law_refused : Fun K "_law_refused" "_law_refused" (top 20) (He.ga K "_law_refused") (fdOf K (He.ga K "_law_refused"))
  g__law_refused : mg "_law_refused" = some (.ref (He.ga K "_law_refused"))
  F_law : Fun K "law" "law" (top 21) (He.ga K "law") (fdOf K (He.ga K "law"))
  g_law : mg "law" = some (.ref (He.ga K "law"))
  nl : noList K = true
  g_LadderError : mg "LadderError" = some (.ref ((TT K).ca 0))
  g_BadNumber : mg "BadNumber" = some (.ref ((TT K).ca 1))
  er_BadNumber : ExTxt P K e_BadNumber.st ((TT K).ca 1) (erI K e_BadNumber) (erCc K e_BadNumber) (erCda K e_BadNumber) (fdOf K (erI K e_BadNumber)) "ValueError" "ValueError.__new__" "ValueError.__init__" He.veBase ((TT K).fld 1)
  xf_1 : XfC K ((TT K).ca 1) ∧ ExcC K ((TT K).ca 1)
  no_1 : PySem.W.findIn K (.ref ((TT K).ca 1)) "number" = some none
  exm_1_BadNumber : PySem.W.exmOne K (.ref ((TT K).ca 1)) (.ref ((TT K).ca 1)) = some true
  kit_1_LadderError : PySem.W.kitOne K (.ref ((TT K).ca 1)) (.ref ((TT K).ca 0)) = some true
abbrev N_is_whole : List Str := ["value"]
theorem sc_is_whole : FnScope N_is_whole ["value"] (defScope (top 5)) := ⟨rfl, rfl, rfl, by decide +kernel, rfl, by decide +kernel, by decide +kernel⟩
abbrev N_common_divisor : List Str := ["one", "other"]
theorem sc_common_divisor : FnScope N_common_divisor ["one", "other"] (defScope (top 6)) := ⟨rfl, rfl, rfl, by decide +kernel, rfl, by decide +kernel, by decide +kernel⟩
abbrev N_is_above : List Str := ["one", "other"]
theorem sc_is_above : FnScope N_is_above ["one", "other"] (defScope (top 12)) := ⟨rfl, rfl, rfl, by decide +kernel, rfl, by decide +kernel, by decide +kernel⟩
abbrev N__law_pool : List Str := ["_law_script", "_law_k", "_law_cell", "_law_size", "_law_mixed"]
theorem sc__law_pool : FnScope N__law_pool ["_law_script", "_law_k"] (defScope (top 14)) := ⟨rfl, rfl, rfl, by decide +kernel, rfl, by decide +kernel, by decide +kernel⟩
abbrev N__law_draw : List Str := ["_law_pool_here", "_law_many", "_law_found"]
theorem sc__law_draw : FnScope N__law_draw ["_law_pool_here", "_law_many"] (defScope (top 15)) := ⟨rfl, rfl, rfl, by decide +kernel, rfl, by decide +kernel, by decide +kernel⟩
abbrev N__law_right_fraction : List Str := ["_law_value", "_law_one", "_law_other", "_law_part"]
theorem sc__law_right_fraction : FnScope N__law_right_fraction ["_law_value"] (defScope (top 17)) := ⟨rfl, rfl, rfl, by decide +kernel, rfl, by decide +kernel, by decide +kernel⟩
abbrev N_is_integer : List Str := ["value", "lowest", "highest"]
theorem sc_is_integer : FnScope N_is_integer ["value", "lowest", "highest"] (defScope (top 4)) := ⟨rfl, rfl, rfl, by decide +kernel, rfl, by decide +kernel, by decide +kernel⟩
abbrev N_is_fraction : List Str := ["value", "part"]
theorem sc_is_fraction : FnScope N_is_fraction ["value"] (defScope (top 7)) := ⟨rfl, rfl, rfl, by decide +kernel, rfl, by decide +kernel, by decide +kernel⟩
abbrev N_fraction : List Str := ["over", "under", "divisor"]
theorem sc_fraction : FnScope N_fraction ["over", "under"] (defScope (top 8)) := ⟨rfl, rfl, rfl, by decide +kernel, rfl, by decide +kernel, by decide +kernel⟩
abbrev N__law_pick : List Str := ["_law_pool_here", "_law_row"]
theorem sc__law_pick : FnScope N__law_pick ["_law_pool_here", "_law_row"] (defScope (top 16)) := ⟨rfl, rfl, rfl, by decide +kernel, rfl, by decide +kernel, by decide +kernel⟩
abbrev N__law_is : List Str := ["_law_value", "_law_over", "_law_under"]
theorem sc__law_is : FnScope N__law_is ["_law_value", "_law_over", "_law_under"] (defScope (top 18)) := ⟨rfl, rfl, rfl, by decide +kernel, rfl, by decide +kernel, by decide +kernel⟩
abbrev N_added : List Str := ["one", "other"]
theorem sc_added : FnScope N_added ["one", "other"] (defScope (top 9)) := ⟨rfl, rfl, rfl, by decide +kernel, rfl, by decide +kernel, by decide +kernel⟩
abbrev N_less : List Str := ["one", "other"]
theorem sc_less : FnScope N_less ["one", "other"] (defScope (top 10)) := ⟨rfl, rfl, rfl, by decide +kernel, rfl, by decide +kernel, by decide +kernel⟩
abbrev N_multiplied : List Str := ["one", "other"]
theorem sc_multiplied : FnScope N_multiplied ["one", "other"] (defScope (top 11)) := ⟨rfl, rfl, rfl, by decide +kernel, rfl, by decide +kernel, by decide +kernel⟩
abbrev N__law_number : List Str := ["_law_pool_here"]
theorem sc__law_number : FnScope N__law_number ["_law_pool_here"] (defScope (top 19)) := ⟨rfl, rfl, rfl, by decide +kernel, rfl, by decide +kernel, by decide +kernel⟩
abbrev N__law_refused : List Str := ["_law_over", "_law_under", "e"]
theorem sc__law_refused : FnScope N__law_refused ["_law_over", "_law_under"] (defScope (top 20)) := ⟨rfl, rfl, rfl, by decide +kernel, rfl, by decide +kernel, by decide +kernel⟩
abbrev N_law : List Str := ["_law_script", "_law_k", "_law_pool_here", "_law_turn", "_law_a", "_law_b", "_law_c", "_law_d", "_law_one", "_law_other", "_law_odd"]
theorem sc_law : FnScope N_law ["_law_script"] (defScope (top 21)) := ⟨rfl, rfl, rfl, by decide +kernel, rfl, by decide +kernel, by decide +kernel⟩
section
variable {P : Program} {w : World} {K : PySem.W.Frag} {mg : Str → Option Value} {base : Heap}
theorem ok_is_whole (t : Txt P K mg) : FnOk P w K mg base (L2.CX P w) 1 (He.ga K "is_whole") (fdOf K (He.ga K "is_whole")) ["value"] (spEv ⟨K, (TT K).ca, (TT K).nm, (TT K).fld, (TT K).ex⟩ c_is_whole) :=
  fn_ok (T := TT K) t.F_is_whole sc_is_whole fun cdv A outer s H E hr => (ss_one (st_ret (se_and (se_isi (b := .int) rfl t.z_isinstance (se_var (pv 0)) (ty_of t.z_int (by decide +kernel))) (se_one (se_not (se_isi (b := .bool) rfl t.z_isinstance (se_var (pv 0)) (ty_of t.z_bool (by decide +kernel))))))))
theorem ok_common_divisor (t : Txt P K mg) : FnOk P w K mg base (L2.CX P w) 1 (He.ga K "common_divisor") (fdOf K (He.ga K "common_divisor")) ["one", "other"] (spEv ⟨K, (TT K).ca, (TT K).nm, (TT K).fld, (TT K).ex⟩ c_common_divisor) :=
  fn_ok (T := TT K) t.F_common_divisor sc_common_divisor fun cdv A outer s H E hr => (ss_cons (st_par2 (i := 0) (j := 1) rfl sc_common_divisor.nd rfl rfl (by decide) rfl rfl (sa_cons (se_cb g_abs t.z_abs (by decide +kernel) (sa_cons (se_var (pv 0)) sa_nil)) (sa_cons (se_cb g_abs t.z_abs (by decide +kernel) (sa_cons (se_var (pv 1)) sa_nil)) sa_nil)) (by rfl))
  (ss_cons (st_while 5000 (passes_of rfl) (st_cmp o_gt (se_var (pv 1)) se_int (nomark _)) (ss_one (st_par2 (i := 0) (j := 1) rfl sc_common_divisor.nd rfl rfl (by decide) rfl rfl (sa_cons (se_var (pv 1)) (sa_cons (se_bin o_mod (se_ct g_int t.z_int (by decide +kernel) (sa_cons (se_var (pv 0)) sa_nil)) (se_ct g_int t.z_int (by decide +kernel) (sa_cons (se_var (pv 1)) sa_nil))) sa_nil)) (by rfl))))
  (ss_one (st_ret (se_var (pv 0))))))
theorem ok_is_above (t : Txt P K mg) : FnOk P w K mg base (L2.CX P w) 1 (He.ga K "is_above") (fdOf K (He.ga K "is_above")) ["one", "other"] (spEv ⟨K, (TT K).ca, (TT K).nm, (TT K).fld, (TT K).ex⟩ c_is_above) :=
  fn_ok (T := TT K) t.F_is_above sc_is_above fun cdv A outer s H E hr => (ss_one (st_ret (se_cmp o_gt (se_bin o_mul (se_ix (se_var (pv 0)) se_int) (se_ix (se_var (pv 1)) se_int)) (se_bin o_mul (se_ix (se_var (pv 1)) se_int) (se_ix (se_var (pv 0)) se_int)) (nomark _))))
theorem ok__law_pool (t : Txt P K mg) : FnOk P w K mg base (L2.CX P w) 1 (He.ga K "_law_pool") (fdOf K (He.ga K "_law_pool")) ["_law_script", "_law_k"] (spEv ⟨K, (TT K).ca, (TT K).nm, (TT K).fld, (TT K).ex⟩ c__law_pool) :=
  fn_ok (T := TT K) t.F__law_pool sc__law_pool fun cdv A outer s H E hr => (ss_cons (st_set (i := 2) sc__law_pool.nd rfl (Or.inl rfl) (se_if (st_cmp o_lt (se_var (pv 1)) (se_it g_len t.z_len (by decide +kernel) (se_var (pv 0))) (nomark _)) (se_ix (se_var (pv 0)) (se_var (pv 1))) (se_bin o_add (se_bin o_mul se_int (se_ilL (g_sum rfl) t.z_sum (by decide +kernel) (sl_cut (se_var (pv 0)) so_none (so_some se_int)))) (se_var (pv 1)))))
  (ss_cons (st_set (i := 3) sc__law_pool.nd rfl (Or.inl rfl) (se_cb g_abs t.z_abs (by decide +kernel) (sa_cons (se_var (pv 2)) sa_nil)))
  (ss_cons (st_set (i := 4) sc__law_pool.nd rfl (Or.inl rfl) (se_bin o_add (se_bin o_add (se_bin o_add (se_bin o_mod (se_ct g_int t.z_int (by decide +kernel) (sa_cons (se_var (pv 3)) sa_nil)) se_int) (se_bin o_mul (se_bin o_mul se_int (se_var (pv 1))) (se_var (pv 1)))) (se_bin o_mul se_int (se_var (pv 1)))) se_int))
  (ss_cons (st_set (i := 4) sc__law_pool.nd rfl (Or.inl rfl) (se_bin o_mod (se_ct g_int t.z_int (by decide +kernel) (sa_cons (se_bin o_mul (se_var (pv 4)) se_int) sa_nil)) se_int))
  (ss_one (st_ret (se_new (sl_lst (sa_cons (se_bin o_mul (se_var (pv 3)) (se_ct g_int t.z_int (by decide +kernel) (sa_cons (se_cmp o_ge (se_var (pv 3)) (se_bin o_pow se_int se_int) (nomark _)) sa_nil))) (sa_cons (se_bin o_mod (se_ct g_int t.z_int (by decide +kernel) (sa_cons (se_bin o_mul (se_var (pv 4)) (se_var (pv 4))) sa_nil)) se_int) sa_nil))))))))))
theorem ok__law_draw (t : Txt P K mg) : FnOk P w K mg base (L2.CX P w) 1 (He.ga K "_law_draw") (fdOf K (He.ga K "_law_draw")) ["_law_pool_here", "_law_many"] (spEv ⟨K, (TT K).ca, (TT K).nm, (TT K).fld, (TT K).ex⟩ c__law_draw) :=
  fn_ok (T := TT K) t.F__law_draw sc__law_draw fun cdv A outer s H E hr => (ss_cons (st_if (st_cmp o_gt (se_ix (se_var (pv 0)) se_int) se_int (nomark _)) (ss_cons (st_set (i := 2) sc__law_draw.nd rfl (Or.inl rfl) (se_bin o_mod (se_ct g_int t.z_int (by decide +kernel) (sa_cons (se_ix (se_var (pv 0)) se_int) sa_nil)) (se_var (pv 1))))
  (ss_cons (st_setIx (se_bin o_div (se_ix (se_var (pv 0)) se_int) (se_var (pv 1))) (se_var (pv 0)) se_int)
  (ss_one (st_ret (se_var (pv 2)))))) ss_nil)
  (ss_cons (st_setIx (se_bin o_mod (se_ct g_int t.z_int (by decide +kernel) (sa_cons (se_bin o_add (se_bin o_mul (se_ix (se_var (pv 0)) se_int) se_int) se_int) sa_nil)) se_int) (se_var (pv 0)) se_int)
  (ss_one (st_ret (se_bin o_mod (se_ct g_int t.z_int (by decide +kernel) (sa_cons (se_bin o_div (se_bin o_mod (se_ct g_int t.z_int (by decide +kernel) (sa_cons (se_bin o_mul (se_ix (se_var (pv 0)) se_int) (se_ix (se_var (pv 0)) se_int)) sa_nil)) se_int) se_int) sa_nil)) (se_var (pv 1)))))))
theorem ok__law_right_fraction (t : Txt P K mg) : FnOk P w K mg base (L2.CX P w) 1 (He.ga K "_law_right_fraction") (fdOf K (He.ga K "_law_right_fraction")) ["_law_value"] (spEv ⟨K, (TT K).ca, (TT K).nm, (TT K).fld, (TT K).ex⟩ c__law_right_fraction) :=
  fn_ok (T := TT K) t.F__law_right_fraction sc__law_right_fraction fun cdv A outer s H E hr => (ss_cons (st_if (st_bool (sw_or (st_not (st_val (se_isi (b := .tuple) rfl t.z_isinstance (se_var (pv 0)) (ty_of t.z_tuple (by decide +kernel))))) (sw_oneO (st_cmp (o_ne hr.units) (se_it g_len t.z_len (by decide +kernel) (se_var (pv 0))) se_int (nomark _))))) (ss_one (st_ret se_bl)) ss_nil)
  (ss_cons (st_if (st_cmp (o_ne hr.units) (se_new (sl_comp (own := [("_law_part", 3)]) (b := (gN 3)) rfl sc__law_right_fraction.nd (si_seq (se_var (pv 0))) (blkOk_by (own := [("_law_part", 3)]) (N := N__law_right_fraction) (sc := defScope (top 17)) (by decide +kernel)) (fun _ _ _ _ _ => (pg_name (i := 3) sc__law_right_fraction.nd rfl (Or.inl rfl))) (gok_name (vs := [3]) (by simp)) (fun _ _ _ _ _ => (sts_one (st_bool (sw_or (st_not (st_val (se_isi (b := .int) rfl t.z_isinstance (se_var (pv 3)) (ty_of t.z_int (by decide +kernel))))) (sw_oneO (st_val (se_isi (b := .bool) rfl t.z_isinstance (se_var (pv 3)) (ty_of t.z_bool (by decide +kernel))))))))) (fun _ _ _ _ _ => (se_var (pv 3))))) (se_new (sl_lst sa_nil)) (nomark _)) (ss_one (st_ret se_bl)) ss_nil)
  (ss_cons (st_par2 (i := 1) (j := 2) rfl sc__law_right_fraction.nd rfl rfl (by decide) rfl rfl (sa_cons (se_cb g_abs t.z_abs (by decide +kernel) (sa_cons (se_ix (se_var (pv 0)) se_int) sa_nil)) (sa_cons (se_ix (se_var (pv 0)) se_int) sa_nil)) (by rfl))
  (ss_cons (st_while 5000 (passes_of rfl) (st_cmp (o_ne hr.units) (se_var (pv 2)) se_int (nomark _)) (ss_one (st_par2 (i := 1) (j := 2) rfl sc__law_right_fraction.nd rfl rfl (by decide) rfl rfl (sa_cons (se_var (pv 2)) (sa_cons (se_bin o_mod (se_ct g_int t.z_int (by decide +kernel) (sa_cons (se_var (pv 1)) sa_nil)) (se_var (pv 2))) sa_nil)) (by rfl))))
  (ss_one (st_ret (se_and (se_cmp o_gt (se_ix (se_var (pv 0)) se_int) se_int (nomark _)) (se_one (se_cmp (o_eq hr.units) (se_var (pv 1)) se_int (nomark _))))))))))
theorem ok_is_integer (t : Txt P K mg) : FnOk P w K mg base (L2.CX P w) 2 (He.ga K "is_integer") (fdOf K (He.ga K "is_integer")) ["value", "lowest", "highest"] (spEv ⟨K, (TT K).ca, (TT K).nm, (TT K).fld, (TT K).ex⟩ c_is_integer) :=
  fn_ok (T := TT K) t.F_is_integer sc_is_integer fun cdv A outer s H E hr => (ss_one (st_ret (se_and (se_call (ok_is_whole t) (hr.mono (by decide)) rfl t.g_is_whole t.F_is_whole.kp (t.F_is_whole.binds fun _ _ _ _ _ _ us hl => match us, hl with | [_], _ => rfl) (takes_of rfl rfl rfl rfl) (sa_cons (se_var (pv 0)) sa_nil)) (se_one (se_chain2 o_le o_le (se_var (pv 1)) (se_var (pv 0)) (se_var (pv 2)))))))
theorem ok_is_fraction (t : Txt P K mg) : FnOk P w K mg base (L2.CX P w) 2 (He.ga K "is_fraction") (fdOf K (He.ga K "is_fraction")) ["value"] (spEv ⟨K, (TT K).ca, (TT K).nm, (TT K).fld, (TT K).ex⟩ c_is_fraction) :=
  fn_ok (T := TT K) t.F_is_fraction sc_is_fraction fun cdv A outer s H E hr => (ss_cons (st_if (st_bool (sw_or (st_not (st_val (se_isi (b := .tuple) rfl t.z_isinstance (se_var (pv 0)) (ty_of t.z_tuple (by decide +kernel))))) (sw_or (st_cmp (o_ne hr.units) (se_it g_len t.z_len (by decide +kernel) (se_var (pv 0))) se_int (nomark _)) (sw_oneO (st_not (st_val (se_ilL (g_all rfl) t.z_all (by decide +kernel) (sl_comp (own := [("part", 1)]) (b := (gN 1)) rfl sc_is_fraction.nd (si_seq (se_var (pv 0))) (blkOk_by (own := [("part", 1)]) (N := N_is_fraction) (sc := defScope (top 7)) (by decide +kernel)) (fun _ _ _ _ _ => (pg_name (i := 1) sc_is_fraction.nd rfl (Or.inl rfl))) (gok_name (vs := [1]) (by simp)) (fun _ _ _ _ _ => sts_nil) (fun _ _ _ _ _ => (se_call (ok_is_whole t) (hr.mono (by decide)) rfl t.g_is_whole t.F_is_whole.kp (t.F_is_whole.binds fun _ _ _ _ _ _ us hl => match us, hl with | [_], _ => rfl) takes0 (sa_cons (se_var (pv 1)) sa_nil))))))))))) (ss_one (st_ret se_bl)) ss_nil)
  (ss_one (st_ret (se_and (se_cmp o_gt (se_ix (se_var (pv 0)) se_int) se_int (nomark _)) (se_one (se_cmp (o_eq hr.units) (se_call (ok_common_divisor t) (hr.mono (by decide)) rfl t.g_common_divisor t.F_common_divisor.kp (t.F_common_divisor.binds fun _ _ _ _ _ _ us hl => match us, hl with | [_, _], _ => rfl) (takes_of rfl rfl rfl rfl) (sa_cons (se_ix (se_var (pv 0)) se_int) (sa_cons (se_ix (se_var (pv 0)) se_int) sa_nil))) se_int (nomark _)))))))
theorem ok_fraction (t : Txt P K mg) : FnOk P w K mg base (L2.CX P w) 2 (He.ga K "fraction") (fdOf K (He.ga K "fraction")) ["over", "under"] (spEv ⟨K, (TT K).ca, (TT K).nm, (TT K).fld, (TT K).ex⟩ c_fraction) :=
  fn_ok (T := TT K) t.F_fraction sc_fraction fun cdv A outer s H E hr => (ss_cons (st_if (st_cmp (o_eq hr.units) (se_var (pv 1)) se_int (nomark _)) (ss_one (st_raise (c := 1) rfl t.er_BadNumber hr t.g_BadNumber (takes_of rfl rfl rfl rfl) (se_var (pv 1)))) ss_nil)
  (ss_cons (st_set (i := 2) sc_fraction.nd rfl (Or.inl rfl) (se_if (st_cmp o_gt (se_var (pv 1)) se_int (nomark _)) (se_call (ok_common_divisor t) (hr.mono (by decide)) rfl t.g_common_divisor t.F_common_divisor.kp (t.F_common_divisor.binds fun _ _ _ _ _ _ us hl => match us, hl with | [_, _], _ => rfl) (takes_of rfl rfl rfl rfl) (sa_cons (se_var (pv 0)) (sa_cons (se_var (pv 1)) sa_nil))) (se_un o_neg (se_call (ok_common_divisor t) (hr.mono (by decide)) rfl t.g_common_divisor t.F_common_divisor.kp (t.F_common_divisor.binds fun _ _ _ _ _ _ us hl => match us, hl with | [_, _], _ => rfl) (takes_of rfl rfl rfl rfl) (sa_cons (se_var (pv 0)) (sa_cons (se_var (pv 1)) sa_nil))))))
  (ss_one (st_ret (se_tup (sa_cons (se_bin o_div (se_var (pv 0)) (se_var (pv 2))) (sa_cons (se_bin o_div (se_var (pv 1)) (se_var (pv 2))) sa_nil)))))))
theorem ok__law_pick (t : Txt P K mg) : FnOk P w K mg base (L2.CX P w) 2 (He.ga K "_law_pick") (fdOf K (He.ga K "_law_pick")) ["_law_pool_here", "_law_row"] (spEv ⟨K, (TT K).ca, (TT K).nm, (TT K).fld, (TT K).ex⟩ c__law_pick) :=
  fn_ok (T := TT K) t.F__law_pick sc__law_pick fun cdv A outer s H E hr => (ss_one (st_ret (se_ix (se_var (pv 1)) (se_call (ok__law_draw t) (hr.mono (by decide)) rfl t.g__law_draw t.F__law_draw.kp (t.F__law_draw.binds fun _ _ _ _ _ _ us hl => match us, hl with | [_, _], _ => rfl) (takes_of rfl rfl rfl rfl) (sa_cons (se_var (pv 0)) (sa_cons (se_it g_len t.z_len (by decide +kernel) (se_var (pv 1))) sa_nil))))))
theorem ok__law_is (t : Txt P K mg) : FnOk P w K mg base (L2.CX P w) 2 (He.ga K "_law_is") (fdOf K (He.ga K "_law_is")) ["_law_value", "_law_over", "_law_under"] (spEv ⟨K, (TT K).ca, (TT K).nm, (TT K).fld, (TT K).ex⟩ c__law_is) :=
  fn_ok (T := TT K) t.F__law_is sc__law_is fun cdv A outer s H E hr => (ss_one (st_ret (se_and (se_call (ok__law_right_fraction t) (hr.mono (by decide)) rfl t.g__law_right_fraction t.F__law_right_fraction.kp (t.F__law_right_fraction.binds fun _ _ _ _ _ _ us hl => match us, hl with | [_], _ => rfl) (takes_of rfl rfl rfl rfl) (sa_cons (se_var (pv 0)) sa_nil)) (se_one (se_cmp (o_eq hr.units) (se_bin o_mul (se_ix (se_var (pv 0)) se_int) (se_var (pv 2))) (se_bin o_mul (se_var (pv 1)) (se_ix (se_var (pv 0)) se_int)) (nomark _))))))
theorem ok_added (t : Txt P K mg) : FnOk P w K mg base (L2.CX P w) 3 (He.ga K "added") (fdOf K (He.ga K "added")) ["one", "other"] (spEv ⟨K, (TT K).ca, (TT K).nm, (TT K).fld, (TT K).ex⟩ c_added) :=
  fn_ok (T := TT K) t.F_added sc_added fun cdv A outer s H E hr => (ss_one (st_ret (se_call (ok_fraction t) (hr.mono (by decide)) rfl t.g_fraction t.F_fraction.kp (t.F_fraction.binds fun _ _ _ _ _ _ us hl => match us, hl with | [_, _], _ => rfl) (takes_of rfl rfl rfl rfl) (sa_cons (se_bin o_add (se_bin o_mul (se_ix (se_var (pv 0)) se_int) (se_ix (se_var (pv 1)) se_int)) (se_bin o_mul (se_ix (se_var (pv 1)) se_int) (se_ix (se_var (pv 0)) se_int))) (sa_cons (se_bin o_mul (se_ix (se_var (pv 0)) se_int) (se_ix (se_var (pv 1)) se_int)) sa_nil)))))
theorem ok_less (t : Txt P K mg) : FnOk P w K mg base (L2.CX P w) 3 (He.ga K "less") (fdOf K (He.ga K "less")) ["one", "other"] (spEv ⟨K, (TT K).ca, (TT K).nm, (TT K).fld, (TT K).ex⟩ c_less) :=
  fn_ok (T := TT K) t.F_less sc_less fun cdv A outer s H E hr => (ss_one (st_ret (se_call (ok_fraction t) (hr.mono (by decide)) rfl t.g_fraction t.F_fraction.kp (t.F_fraction.binds fun _ _ _ _ _ _ us hl => match us, hl with | [_, _], _ => rfl) (takes_of rfl rfl rfl rfl) (sa_cons (se_bin o_sub (se_bin o_mul (se_ix (se_var (pv 0)) se_int) (se_ix (se_var (pv 1)) se_int)) (se_bin o_mul (se_ix (se_var (pv 1)) se_int) (se_ix (se_var (pv 0)) se_int))) (sa_cons (se_bin o_mul (se_ix (se_var (pv 0)) se_int) (se_ix (se_var (pv 1)) se_int)) sa_nil)))))
theorem ok_multiplied (t : Txt P K mg) : FnOk P w K mg base (L2.CX P w) 3 (He.ga K "multiplied") (fdOf K (He.ga K "multiplied")) ["one", "other"] (spEv ⟨K, (TT K).ca, (TT K).nm, (TT K).fld, (TT K).ex⟩ c_multiplied) :=
  fn_ok (T := TT K) t.F_multiplied sc_multiplied fun cdv A outer s H E hr => (ss_one (st_ret (se_call (ok_fraction t) (hr.mono (by decide)) rfl t.g_fraction t.F_fraction.kp (t.F_fraction.binds fun _ _ _ _ _ _ us hl => match us, hl with | [_, _], _ => rfl) (takes_of rfl rfl rfl rfl) (sa_cons (se_bin o_mul (se_ix (se_var (pv 0)) se_int) (se_ix (se_var (pv 1)) se_int)) (sa_cons (se_bin o_mul (se_ix (se_var (pv 0)) se_int) (se_ix (se_var (pv 1)) se_int)) sa_nil)))))
theorem ok__law_number (t : Txt P K mg) : FnOk P w K mg base (L2.CX P w) 3 (He.ga K "_law_number") (fdOf K (He.ga K "_law_number")) ["_law_pool_here"] (spEv ⟨K, (TT K).ca, (TT K).nm, (TT K).fld, (TT K).ex⟩ c__law_number) :=
  fn_ok (T := TT K) t.F__law_number sc__law_number fun cdv A outer s H E hr => (ss_one (st_ret (se_call (ok__law_pick t) (hr.mono (by decide)) rfl t.g__law_pick t.F__law_pick.kp (t.F__law_pick.binds fun _ _ _ _ _ _ us hl => match us, hl with | [_, _], _ => rfl) (takes_of rfl rfl rfl rfl) (sa_cons (se_var (pv 0)) (sa_cons (se_new (sl_lst (sa_cons se_int (sa_cons se_int (sa_cons (se_un o_neg se_int) (sa_cons se_int (sa_cons (se_un o_neg se_int) (sa_cons (se_bin o_sub (se_call (ok__law_draw t) (hr.mono (by decide)) rfl t.g__law_draw t.F__law_draw.kp (t.F__law_draw.binds fun _ _ _ _ _ _ us hl => match us, hl with | [_, _], _ => rfl) (takes_of rfl rfl rfl rfl) (sa_cons (se_var (pv 0)) (sa_cons (se_bin o_mul se_int (se_bin o_pow se_int se_int)) sa_nil))) (se_bin o_pow se_int se_int)) (sa_cons (se_call (ok__law_draw t) (hr.mono (by decide)) rfl t.g__law_draw t.F__law_draw.kp (t.F__law_draw.binds fun _ _ _ _ _ _ us hl => match us, hl with | [_, _], _ => rfl) (takes_of rfl rfl rfl rfl) (sa_cons (se_var (pv 0)) (sa_cons se_int sa_nil))) sa_nil))))))))) sa_nil)))))
theorem ok__law_refused (t : Txt P K mg) : FnOk P w K mg base (L2.CX P w) 3 (He.ga K "_law_refused") (fdOf K (He.ga K "_law_refused")) ["_law_over", "_law_under"] (spEv ⟨K, (TT K).ca, (TT K).nm, (TT K).fld, (TT K).ex⟩ c__law_refused) :=
  fn_ok (T := TT K) t.F__law_refused sc__law_refused fun cdv A outer s H E hr => (ss_cons (st_try1 (i := 2) (cv := .ref ((TT K).ca 1)) (sub := sub_BadNumber) rfl rfl rfl sc__law_refused.nd rfl rfl ⟨rfl, by decide, Or.inl t.g_BadNumber⟩ (takes_of rfl rfl rfl rfl) (fun c b h => match c, h with | 0, h => nomatch h | 1, h => by cases h; exact t.exm_1_BadNumber | (m + 2), h => nomatch h)
 (fun W pn xe tk po => (ss_one (st_ex (se_call (ok_fraction t) (hr.mono (by decide)) rfl t.g_fraction t.F_fraction.kp (t.F_fraction.binds fun _ _ _ _ _ _ us hl => match us, hl with | [_, _], _ => rfl) tk (sa_cons (se_var (pv 0)) (sa_cons (se_var (pv 1)) sa_nil))))))
 (fun a oe c dx pn hc hz hff => match c, hc, hz with | 0, hc, _ => absurd hc (by decide) | 1, _, hz => (ss_one (st_ret (se_new (sl_lst (sa_cons (se_cb g_reprB t.z_repr (by decide +kernel) (sa_cons (se_xf t.xf_1.1 t.no_1 rfl hz hff (se_var (pv 2))) sa_nil)) (sa_cons (se_isX (cv := .ref ((TT K).ca 0)) t.xf_1.2 hz hff t.z_isinstance (se_var (pv 2)) (pe_glob (v := .ref ((TT K).ca 0)) rfl t.g_LadderError rfl) (fun _ h => h) (fun b h => by cases h; exact t.kit_1_LadderError)) sa_nil)))))) | (m + 2), hc, _ => absurd hc (fun h => nomatch h)))
  (ss_one (st_ret se_non)))
theorem ok_law (t : Txt P K mg) : FnOk P w K mg base (L2.CX P w) 4 (He.ga K "law") (fdOf K (He.ga K "law")) ["_law_script"] (spEv ⟨K, (TT K).ca, (TT K).nm, (TT K).fld, (TT K).ex⟩ c_law) :=
  fn_ok (T := TT K) t.F_law sc_law fun cdv A outer s H E hr => (ss_cons (st_for (passes_of rfl) rfl (si_range1 rfl t.z_range (sa_cons (se_cb (g_max2 rfl) t.z_max (by decide +kernel) (sa_cons se_int (sa_cons (se_cb (g_min2 rfl) t.z_min (by decide +kernel) (sa_cons (se_it g_len t.z_len (by decide +kernel) (se_var (pv 0))) (sa_cons se_int sa_nil))) sa_nil))) sa_nil)) (pg_name (i := 1) sc_law.nd rfl (Or.inl rfl)) (gok_name (vs := [1]) (by simp)) (ss_cons (st_set (i := 2) sc_law.nd rfl (Or.inl rfl) (se_call (ok__law_pool t) (hr.mono (by decide)) rfl t.g__law_pool t.F__law_pool.kp (t.F__law_pool.binds fun _ _ _ _ _ _ us hl => match us, hl with | [_, _], _ => rfl) (takes_of rfl rfl rfl rfl) (sa_cons (se_var (pv 0)) (sa_cons (se_var (pv 1)) sa_nil))))
  (ss_cons (st_for (passes_of rfl) rfl (si_range1 rfl t.z_range (sa_cons se_int sa_nil)) (pg_name (i := 3) sc_law.nd rfl (Or.inl rfl)) (gok_name (vs := [3]) (by simp)) (ss_cons (st_asg (pg_tup (n := 4) (t := gsNames [4, 5, 6, 7]) rfl (pgs_cons (pg_name (i := 4) sc_law.nd rfl (Or.inl rfl)) (pgs_cons (pg_name (i := 5) sc_law.nd rfl (Or.inl rfl)) (pgs_cons (pg_name (i := 6) sc_law.nd rfl (Or.inl rfl)) (pgs_cons (pg_name (i := 7) sc_law.nd rfl (Or.inl rfl)) pgs_nil))))) (gok_tup (is := [4, 5, 6, 7]) (vs := [4, 5, 6, 7]) (by simp)) (se_tup (sa_cons (se_call (ok__law_number t) (hr.mono (by decide)) rfl t.g__law_number t.F__law_number.kp (t.F__law_number.binds fun _ _ _ _ _ _ us hl => match us, hl with | [_], _ => rfl) (takes_of rfl rfl rfl rfl) (sa_cons (se_var (pv 2)) sa_nil)) (sa_cons (se_call (ok__law_number t) (hr.mono (by decide)) rfl t.g__law_number t.F__law_number.kp (t.F__law_number.binds fun _ _ _ _ _ _ us hl => match us, hl with | [_], _ => rfl) (takes_of rfl rfl rfl rfl) (sa_cons (se_var (pv 2)) sa_nil)) (sa_cons (se_call (ok__law_number t) (hr.mono (by decide)) rfl t.g__law_number t.F__law_number.kp (t.F__law_number.binds fun _ _ _ _ _ _ us hl => match us, hl with | [_], _ => rfl) (takes_of rfl rfl rfl rfl) (sa_cons (se_var (pv 2)) sa_nil)) (sa_cons (se_call (ok__law_number t) (hr.mono (by decide)) rfl t.g__law_number t.F__law_number.kp (t.F__law_number.binds fun _ _ _ _ _ _ us hl => match us, hl with | [_], _ => rfl) (takes_of rfl rfl rfl rfl) (sa_cons (se_var (pv 2)) sa_nil)) sa_nil))))))
  (ss_cons (st_par2 (i := 5) (j := 7) rfl sc_law.nd rfl rfl (by decide) rfl rfl (sa_cons (se_if (st_cmp (o_ne hr.units) (se_var (pv 5)) se_int (nomark _)) (se_var (pv 5)) se_int) (sa_cons (se_if (st_cmp (o_ne hr.units) (se_var (pv 7)) se_int (nomark _)) (se_var (pv 7)) (se_un o_neg se_int)) sa_nil)) (by rfl))
  (ss_cons (st_par2 (i := 8) (j := 9) rfl sc_law.nd rfl rfl (by decide) rfl rfl (sa_cons (se_call (ok_fraction t) (hr.mono (by decide)) rfl t.g_fraction t.F_fraction.kp (t.F_fraction.binds fun _ _ _ _ _ _ us hl => match us, hl with | [_, _], _ => rfl) (takes_of rfl rfl rfl rfl) (sa_cons (se_var (pv 4)) (sa_cons (se_var (pv 5)) sa_nil))) (sa_cons (se_call (ok_fraction t) (hr.mono (by decide)) rfl t.g_fraction t.F_fraction.kp (t.F_fraction.binds fun _ _ _ _ _ _ us hl => match us, hl with | [_, _], _ => rfl) (takes_of rfl rfl rfl rfl) (sa_cons (se_var (pv 6)) (sa_cons (se_var (pv 7)) sa_nil))) sa_nil)) (by rfl))
  (ss_cons (st_if (st_bool (sw_or (st_not (st_val (se_call (ok__law_is t) (hr.mono (by decide)) rfl t.g__law_is t.F__law_is.kp (t.F__law_is.binds fun _ _ _ _ _ _ us hl => match us, hl with | [_, _, _], _ => rfl) (takes_of rfl rfl rfl rfl) (sa_cons (se_var (pv 8)) (sa_cons (se_var (pv 4)) (sa_cons (se_var (pv 5)) sa_nil)))))) (sw_oneO (st_not (st_val (se_call (ok__law_is t) (hr.mono (by decide)) rfl t.g__law_is t.F__law_is.kp (t.F__law_is.binds fun _ _ _ _ _ _ us hl => match us, hl with | [_, _, _], _ => rfl) (takes_of rfl rfl rfl rfl) (sa_cons (se_var (pv 9)) (sa_cons (se_var (pv 6)) (sa_cons (se_var (pv 7)) sa_nil))))))))) (ss_one (st_ret se_bl)) ss_nil)
  (ss_cons (st_if (st_cmp (o_ne hr.units) (se_call (ok__law_refused t) (hr.mono (by decide)) rfl t.g__law_refused t.F__law_refused.kp (t.F__law_refused.binds fun _ _ _ _ _ _ us hl => match us, hl with | [_, _], _ => rfl) (takes_of rfl rfl rfl rfl) (sa_cons (se_var (pv 4)) (sa_cons se_int sa_nil))) (se_new (sl_lst (sa_cons se_str (sa_cons se_bl sa_nil)))) (nomark _)) (ss_one (st_ret se_bl)) ss_nil)
  (ss_cons (st_if (st_not (st_val (se_call (ok__law_is t) (hr.mono (by decide)) rfl t.g__law_is t.F__law_is.kp (t.F__law_is.binds fun _ _ _ _ _ _ us hl => match us, hl with | [_, _, _], _ => rfl) (takes_of rfl rfl rfl rfl) (sa_cons (se_call (ok_added t) (hr.mono (by decide)) rfl t.g_added t.F_added.kp (t.F_added.binds fun _ _ _ _ _ _ us hl => match us, hl with | [_, _], _ => rfl) (takes_of rfl rfl rfl rfl) (sa_cons (se_var (pv 8)) (sa_cons (se_var (pv 9)) sa_nil))) (sa_cons (se_bin o_add (se_bin o_mul (se_var (pv 4)) (se_var (pv 7))) (se_bin o_mul (se_var (pv 6)) (se_var (pv 5)))) (sa_cons (se_bin o_mul (se_var (pv 5)) (se_var (pv 7))) sa_nil)))))) (ss_one (st_ret se_bl)) ss_nil)
  (ss_cons (st_if (st_not (st_val (se_call (ok__law_is t) (hr.mono (by decide)) rfl t.g__law_is t.F__law_is.kp (t.F__law_is.binds fun _ _ _ _ _ _ us hl => match us, hl with | [_, _, _], _ => rfl) (takes_of rfl rfl rfl rfl) (sa_cons (se_call (ok_less t) (hr.mono (by decide)) rfl t.g_less t.F_less.kp (t.F_less.binds fun _ _ _ _ _ _ us hl => match us, hl with | [_, _], _ => rfl) (takes_of rfl rfl rfl rfl) (sa_cons (se_var (pv 8)) (sa_cons (se_var (pv 9)) sa_nil))) (sa_cons (se_bin o_sub (se_bin o_mul (se_var (pv 4)) (se_var (pv 7))) (se_bin o_mul (se_var (pv 6)) (se_var (pv 5)))) (sa_cons (se_bin o_mul (se_var (pv 5)) (se_var (pv 7))) sa_nil)))))) (ss_one (st_ret se_bl)) ss_nil)
  (ss_cons (st_if (st_not (st_val (se_call (ok__law_is t) (hr.mono (by decide)) rfl t.g__law_is t.F__law_is.kp (t.F__law_is.binds fun _ _ _ _ _ _ us hl => match us, hl with | [_, _, _], _ => rfl) (takes_of rfl rfl rfl rfl) (sa_cons (se_call (ok_multiplied t) (hr.mono (by decide)) rfl t.g_multiplied t.F_multiplied.kp (t.F_multiplied.binds fun _ _ _ _ _ _ us hl => match us, hl with | [_, _], _ => rfl) (takes_of rfl rfl rfl rfl) (sa_cons (se_var (pv 8)) (sa_cons (se_var (pv 9)) sa_nil))) (sa_cons (se_bin o_mul (se_var (pv 4)) (se_var (pv 6))) (sa_cons (se_bin o_mul (se_var (pv 5)) (se_var (pv 7))) sa_nil)))))) (ss_one (st_ret se_bl)) ss_nil)
  (ss_cons (st_if (st_cmp (o_ne hr.units) (se_cb g_reprB t.z_repr (by decide +kernel) (sa_cons (se_call (ok_is_above t) (hr.mono (by decide)) rfl t.g_is_above t.F_is_above.kp (t.F_is_above.binds fun _ _ _ _ _ _ us hl => match us, hl with | [_, _], _ => rfl) (takes_of rfl rfl rfl rfl) (sa_cons (se_var (pv 8)) (sa_cons (se_var (pv 9)) sa_nil))) sa_nil)) (se_cb g_reprB t.z_repr (by decide +kernel) (sa_cons (se_cmp o_gt (se_bin o_mul (se_ix (se_var (pv 8)) se_int) (se_ix (se_var (pv 9)) se_int)) (se_bin o_mul (se_ix (se_var (pv 9)) se_int) (se_ix (se_var (pv 8)) se_int)) (nomark _)) sa_nil)) (nomark _)) (ss_one (st_ret se_bl)) ss_nil)
  (ss_cons (st_if (st_cmp o_isNot (se_call (ok_is_above t) (hr.mono (by decide)) rfl t.g_is_above t.F_is_above.kp (t.F_is_above.binds fun _ _ _ _ _ _ us hl => match us, hl with | [_, _], _ => rfl) (takes_of rfl rfl rfl rfl) (sa_cons (se_var (pv 8)) (sa_cons (se_var (pv 8)) sa_nil))) se_bl (nomark _)) (ss_one (st_ret se_bl)) ss_nil)
  (ss_cons (st_if (st_bool (sw_or (st_cmp o_isNot (se_call (ok_is_fraction t) (hr.mono (by decide)) rfl t.g_is_fraction t.F_is_fraction.kp (t.F_is_fraction.binds fun _ _ _ _ _ _ us hl => match us, hl with | [_], _ => rfl) (takes_of rfl rfl rfl rfl) (sa_cons (se_var (pv 8)) sa_nil)) se_bl (nomark _)) (sw_oneO (st_cmp o_isNot (se_call (ok_is_fraction t) (hr.mono (by decide)) rfl t.g_is_fraction t.F_is_fraction.kp (t.F_is_fraction.binds fun _ _ _ _ _ _ us hl => match us, hl with | [_], _ => rfl) (takes_of rfl rfl rfl rfl) (sa_cons (se_tup (sa_cons (se_bin o_mul (se_ix (se_var (pv 8)) se_int) se_int) (sa_cons (se_bin o_mul (se_ix (se_var (pv 8)) se_int) se_int) sa_nil))) sa_nil)) se_bl (nomark _))))) (ss_one (st_ret se_bl)) ss_nil)
  (ss_cons (st_if (st_bool (sw_or (st_cmp o_isNot (se_call (ok_is_fraction t) (hr.mono (by decide)) rfl t.g_is_fraction t.F_is_fraction.kp (t.F_is_fraction.binds fun _ _ _ _ _ _ us hl => match us, hl with | [_], _ => rfl) (takes_of rfl rfl rfl rfl) (sa_cons (se_tup (sa_cons (se_ix (se_var (pv 8)) se_int) (sa_cons (se_bin o_sub se_int (se_ix (se_var (pv 8)) se_int)) sa_nil))) sa_nil)) se_bl (nomark _)) (sw_oneO (st_cmp o_isNot (se_call (ok_is_fraction t) (hr.mono (by decide)) rfl t.g_is_fraction t.F_is_fraction.kp (t.F_is_fraction.binds fun _ _ _ _ _ _ us hl => match us, hl with | [_], _ => rfl) (takes_of rfl rfl rfl rfl) (sa_cons (se_new (sl_list t.z_list (se_var (pv 8)))) sa_nil)) se_bl (nomark _))))) (ss_one (st_ret se_bl)) ss_nil)
  (ss_cons (st_if (st_cmp o_isNot (se_call (ok_is_integer t) (hr.mono (by decide)) rfl t.g_is_integer t.F_is_integer.kp (t.F_is_integer.binds fun _ _ _ _ _ _ us hl => match us, hl with | [_, _, _], _ => rfl) (takes_of rfl rfl rfl rfl) (sa_cons (se_var (pv 4)) (sa_cons (se_bin o_sub (se_var (pv 4)) se_int) (sa_cons (se_bin o_sub (se_var (pv 4)) se_int) sa_nil)))) se_bl (nomark _)) (ss_one (st_ret se_bl)) ss_nil)
  (ss_cons (st_if (st_cmp (o_ne hr.units) (se_call (ok_is_fraction t) (hr.mono (by decide)) rfl t.g_is_fraction t.F_is_fraction.kp (t.F_is_fraction.binds fun _ _ _ _ _ _ us hl => match us, hl with | [_], _ => rfl) (takes_of rfl rfl rfl rfl) (sa_cons (se_tup (sa_cons (se_var (pv 4)) (sa_cons (se_var (pv 5)) sa_nil))) sa_nil)) (se_cmp (o_eq hr.units) (se_var (pv 8)) (se_tup (sa_cons (se_var (pv 4)) (sa_cons (se_var (pv 5)) sa_nil))) (nomark _)) (nomark _)) (ss_one (st_ret se_bl)) ss_nil)
  (ss_cons (st_if (st_cmp o_isNot (se_call (ok_is_integer t) (hr.mono (by decide)) rfl t.g_is_integer t.F_is_integer.kp (t.F_is_integer.binds fun _ _ _ _ _ _ us hl => match us, hl with | [_, _, _], _ => rfl) (takes_of rfl rfl rfl rfl) (sa_cons (se_var (pv 4)) (sa_cons (se_var (pv 4)) (sa_cons (se_var (pv 4)) sa_nil)))) se_bl (nomark _)) (ss_one (st_ret se_bl)) ss_nil)
  (ss_one (st_if (st_bool (sw_or (st_cmp o_isNot (se_call (ok_is_integer t) (hr.mono (by decide)) rfl t.g_is_integer t.F_is_integer.kp (t.F_is_integer.binds fun _ _ _ _ _ _ us hl => match us, hl with | [_, _, _], _ => rfl) (takes_of rfl rfl rfl rfl) (sa_cons (se_var (pv 4)) (sa_cons (se_bin o_add (se_var (pv 4)) se_int) (sa_cons (se_bin o_add (se_var (pv 4)) se_int) sa_nil)))) se_bl (nomark _)) (sw_oneO (st_cmp o_isNot (se_call (ok_is_integer t) (hr.mono (by decide)) rfl t.g_is_integer t.F_is_integer.kp (t.F_is_integer.binds fun _ _ _ _ _ _ us hl => match us, hl with | [_, _, _], _ => rfl) (takes_of rfl rfl rfl rfl) (sa_cons se_bl (sa_cons se_int (sa_cons se_int sa_nil)))) se_bl (nomark _))))) (ss_one (st_ret se_bl)) ss_nil))))))))))))))))))
  (ss_cons (st_for (passes_of rfl) rfl (si_tmp (sl_lst (sa_cons se_non (sa_cons se_int (sa_cons (se_tup sa_nil) (sa_cons (se_tup (sa_cons se_int sa_nil)) (sa_cons (se_tup (sa_cons se_int (sa_cons se_int sa_nil))) (sa_cons (se_tup (sa_cons se_int (sa_cons se_int sa_nil))) (sa_cons (se_tup (sa_cons se_int (sa_cons se_bl sa_nil))) (sa_cons (se_tup (sa_cons se_bl (sa_cons se_int sa_nil))) (sa_cons (se_tup (sa_cons se_int (sa_cons se_int (sa_cons se_int sa_nil)))) (sa_cons se_str (sa_cons (se_tup (sa_cons se_str (sa_cons se_int sa_nil))) sa_nil))))))))))))) (pg_name (i := 10) sc_law.nd rfl (Or.inl rfl)) (gok_name (vs := [10]) (by simp)) (ss_one (st_if (st_cmp o_isNot (se_call (ok_is_fraction t) (hr.mono (by decide)) rfl t.g_is_fraction t.F_is_fraction.kp (t.F_is_fraction.binds fun _ _ _ _ _ _ us hl => match us, hl with | [_], _ => rfl) (takes_of rfl rfl rfl rfl) (sa_cons (se_var (pv 10)) sa_nil)) se_bl (nomark _)) (ss_one (st_ret se_bl)) ss_nil)))
  (ss_one (st_for (passes_of rfl) rfl (si_tmp (sl_lst (sa_cons se_non (sa_cons se_bl (sa_cons se_str (sa_cons (se_tup (sa_cons se_int sa_nil)) sa_nil)))))) (pg_name (i := 10) sc_law.nd rfl (Or.inl rfl)) (gok_name (vs := [10]) (by simp)) (ss_one (st_if (st_cmp o_isNot (se_call (ok_is_integer t) (hr.mono (by decide)) rfl t.g_is_integer t.F_is_integer.kp (t.F_is_integer.binds fun _ _ _ _ _ _ us hl => match us, hl with | [_, _, _], _ => rfl) (takes_of rfl rfl rfl rfl) (sa_cons (se_var (pv 10)) (sa_cons (se_un o_neg se_int) (sa_cons se_int sa_nil)))) se_bl (nomark _)) (ss_one (st_ret se_bl)) ss_nil))))))))
  (ss_one (st_ret se_bl)))
end
end K01
end
/-! ## K01H -/
section
set_option maxRecDepth 100000
set_option maxHeartbeats 0
namespace K01
open PySem L2 Lad
abbrev P0 : Program := PySem.Challenge.pw_liftedladders_k01_fractions
abbrev d_is_whole : He.DefD := ⟨("is_whole", none), "is_whole", "is_whole", defArgs (top 5), defBody (top 5), defScope (top 5), [], []⟩
abbrev d_common_divisor : He.DefD := ⟨("common_divisor", none), "common_divisor", "common_divisor", defArgs (top 6), defBody (top 6), defScope (top 6), [], []⟩
abbrev d_is_above : He.DefD := ⟨("is_above", none), "is_above", "is_above", defArgs (top 12), defBody (top 12), defScope (top 12), [], []⟩
abbrev d__law_pool : He.DefD := ⟨("_law_pool", none), "_law_pool", "_law_pool", defArgs (top 14), defBody (top 14), defScope (top 14), [], []⟩
abbrev d__law_draw : He.DefD := ⟨("_law_draw", none), "_law_draw", "_law_draw", defArgs (top 15), defBody (top 15), defScope (top 15), [], []⟩
abbrev d__law_right_fraction : He.DefD := ⟨("_law_right_fraction", none), "_law_right_fraction", "_law_right_fraction", defArgs (top 17), defBody (top 17), defScope (top 17), [], []⟩
abbrev d_is_integer : He.DefD := ⟨("is_integer", none), "is_integer", "is_integer", defArgs (top 4), defBody (top 4), defScope (top 4), [], []⟩
abbrev d_is_fraction : He.DefD := ⟨("is_fraction", none), "is_fraction", "is_fraction", defArgs (top 7), defBody (top 7), defScope (top 7), [], []⟩
abbrev d_fraction : He.DefD := ⟨("fraction", none), "fraction", "fraction", defArgs (top 8), defBody (top 8), defScope (top 8), [], []⟩
abbrev d__law_pick : He.DefD := ⟨("_law_pick", none), "_law_pick", "_law_pick", defArgs (top 16), defBody (top 16), defScope (top 16), [], []⟩
abbrev d__law_is : He.DefD := ⟨("_law_is", none), "_law_is", "_law_is", defArgs (top 18), defBody (top 18), defScope (top 18), [], []⟩
abbrev d_added : He.DefD := ⟨("added", none), "added", "added", defArgs (top 9), defBody (top 9), defScope (top 9), [], []⟩
abbrev d_less : He.DefD := ⟨("less", none), "less", "less", defArgs (top 10), defBody (top 10), defScope (top 10), [], []⟩
abbrev d_multiplied : He.DefD := ⟨("multiplied", none), "multiplied", "multiplied", defArgs (top 11), defBody (top 11), defScope (top 11), [], []⟩
abbrev d__law_number : He.DefD := ⟨("_law_number", none), "_law_number", "_law_number", defArgs (top 19), defBody (top 19), defScope (top 19), [], []⟩
abbrev d__law_refused : He.DefD := ⟨("_law_refused", none), "_law_refused", "_law_refused", defArgs (top 20), defBody (top 20), defScope (top 20), [], []⟩
abbrev d_law : He.DefD := ⟨("law", none), "law", "law", defArgs (top 21), defBody (top 21), defScope (top 21), [], []⟩
def fn : List He.DefD := [d_is_whole, d_common_divisor, d_is_above, d__law_pool, d__law_draw, d__law_right_fraction, d_is_integer, d_is_fraction, d_fraction, d__law_pick, d__law_is, d_added, d_less, d_multiplied, d__law_number, d__law_refused, d_law]
def er : List ErD := [e_BadNumber]
def fa : List Chk := [(He.Fa.free "abs").ok,
  (He.Fa.free "all").ok,
  (He.Fa.free "bool").ok,
  (He.Fa.free "int").ok,
  (He.Fa.free "isinstance").ok,
  (He.Fa.free "len").ok,
  (He.Fa.free "list").ok,
  (He.Fa.free "max").ok,
  (He.Fa.free "min").ok,
  (He.Fa.free "range").ok,
  (He.Fa.free "repr").ok,
  (He.Fa.free "sum").ok,
  (He.Fa.free "tuple").ok,
  (He.Fa.glo "is_whole").ok,
  (He.Fa.glo "common_divisor").ok,
  (He.Fa.glo "is_above").ok,
  (He.Fa.glo "_law_pool").ok,
  (He.Fa.glo "_law_draw").ok,
  (He.Fa.glo "_law_right_fraction").ok,
  (He.Fa.glo "is_integer").ok,
  (He.Fa.glo "is_fraction").ok,
  (He.Fa.glo "fraction").ok,
  (He.Fa.glo "_law_pick").ok,
  (He.Fa.glo "_law_is").ok,
  (He.Fa.glo "added").ok,
  (He.Fa.glo "less").ok,
  (He.Fa.glo "multiplied").ok,
  (He.Fa.glo "_law_number").ok,
  (He.Fa.glo "_law_refused").ok,
  (He.Fa.glo "law").ok,
  noList,
  (He.Fa.glo "LadderError").ok,
  (He.Fa.glo "BadNumber").ok,
  (fun K => erB P0.main.file "ValueError" "ValueError.__new__" "ValueError.__init__" He.veBase K e_BadNumber),
  (fun K => excB K (caK K 1)),
  (fun K => eqO (PySem.W.findIn K (.ref (caK K 1)) "number") (some none)),
  (fun K => decide (PySem.W.exmOne K (.ref (caK K 1)) (.ref (caK K 1)) = some true)),
  (fun K => decide (PySem.W.kitOne K (.ref (caK K 1)) (.ref (caK K 0)) = some true))]
theorem txt {K : PySem.W.Frag} {h : Heap} {mg : Str → Option Value} (X : K.In h) (G : h.Ns mainGlobals mg) (c : SaysL fa fn er K) : Txt P0 K mg where
  z_abs := He.free_ok X G (c.fact 0 (f := (He.Fa.free "abs").ok) rfl)
  z_all := He.free_ok X G (c.fact 1 (f := (He.Fa.free "all").ok) rfl)
  z_bool := He.free_ok X G (c.fact 2 (f := (He.Fa.free "bool").ok) rfl)
  z_int := He.free_ok X G (c.fact 3 (f := (He.Fa.free "int").ok) rfl)
  z_isinstance := He.free_ok X G (c.fact 4 (f := (He.Fa.free "isinstance").ok) rfl)
  z_len := He.free_ok X G (c.fact 5 (f := (He.Fa.free "len").ok) rfl)
  z_list := He.free_ok X G (c.fact 6 (f := (He.Fa.free "list").ok) rfl)
  z_max := He.free_ok X G (c.fact 7 (f := (He.Fa.free "max").ok) rfl)
  z_min := He.free_ok X G (c.fact 8 (f := (He.Fa.free "min").ok) rfl)
  z_range := He.free_ok X G (c.fact 9 (f := (He.Fa.free "range").ok) rfl)
  z_repr := He.free_ok X G (c.fact 10 (f := (He.Fa.free "repr").ok) rfl)
  z_sum := He.free_ok X G (c.fact 11 (f := (He.Fa.free "sum").ok) rfl)
  z_tuple := He.free_ok X G (c.fact 12 (f := (He.Fa.free "tuple").ok) rfl)
  F_is_whole := fun_of (d := d_is_whole) rfl (c.fn_ 0 rfl).1 (c.fn_ 0 rfl).2
  g_is_whole := He.glo_ok X G (c.fact 13 (f := (He.Fa.glo "is_whole").ok) rfl)
  F_common_divisor := fun_of (d := d_common_divisor) rfl (c.fn_ 1 rfl).1 (c.fn_ 1 rfl).2
  g_common_divisor := He.glo_ok X G (c.fact 14 (f := (He.Fa.glo "common_divisor").ok) rfl)
  F_is_above := fun_of (d := d_is_above) rfl (c.fn_ 2 rfl).1 (c.fn_ 2 rfl).2
  g_is_above := He.glo_ok X G (c.fact 15 (f := (He.Fa.glo "is_above").ok) rfl)
  F__law_pool := fun_of (d := d__law_pool) rfl (c.fn_ 3 rfl).1 (c.fn_ 3 rfl).2
  g__law_pool := He.glo_ok X G (c.fact 16 (f := (He.Fa.glo "_law_pool").ok) rfl)
  F__law_draw := fun_of (d := d__law_draw) rfl (c.fn_ 4 rfl).1 (c.fn_ 4 rfl).2
  g__law_draw := He.glo_ok X G (c.fact 17 (f := (He.Fa.glo "_law_draw").ok) rfl)
  F__law_right_fraction := fun_of (d := d__law_right_fraction) rfl (c.fn_ 5 rfl).1 (c.fn_ 5 rfl).2
  g__law_right_fraction := He.glo_ok X G (c.fact 18 (f := (He.Fa.glo "_law_right_fraction").ok) rfl)
  F_is_integer := fun_of (d := d_is_integer) rfl (c.fn_ 6 rfl).1 (c.fn_ 6 rfl).2
  g_is_integer := He.glo_ok X G (c.fact 19 (f := (He.Fa.glo "is_integer").ok) rfl)
  F_is_fraction := fun_of (d := d_is_fraction) rfl (c.fn_ 7 rfl).1 (c.fn_ 7 rfl).2
  g_is_fraction := He.glo_ok X G (c.fact 20 (f := (He.Fa.glo "is_fraction").ok) rfl)
  F_fraction := fun_of (d := d_fraction) rfl (c.fn_ 8 rfl).1 (c.fn_ 8 rfl).2
  g_fraction := He.glo_ok X G (c.fact 21 (f := (He.Fa.glo "fraction").ok) rfl)
  F__law_pick := fun_of (d := d__law_pick) rfl (c.fn_ 9 rfl).1 (c.fn_ 9 rfl).2
  g__law_pick := He.glo_ok X G (c.fact 22 (f := (He.Fa.glo "_law_pick").ok) rfl)
  F__law_is := fun_of (d := d__law_is) rfl (c.fn_ 10 rfl).1 (c.fn_ 10 rfl).2
  g__law_is := He.glo_ok X G (c.fact 23 (f := (He.Fa.glo "_law_is").ok) rfl)
  F_added := fun_of (d := d_added) rfl (c.fn_ 11 rfl).1 (c.fn_ 11 rfl).2
  g_added := He.glo_ok X G (c.fact 24 (f := (He.Fa.glo "added").ok) rfl)
  F_less := fun_of (d := d_less) rfl (c.fn_ 12 rfl).1 (c.fn_ 12 rfl).2
  g_less := He.glo_ok X G (c.fact 25 (f := (He.Fa.glo "less").ok) rfl)
  F_multiplied := fun_of (d := d_multiplied) rfl (c.fn_ 13 rfl).1 (c.fn_ 13 rfl).2
  g_multiplied := He.glo_ok X G (c.fact 26 (f := (He.Fa.glo "multiplied").ok) rfl)
  F__law_number := fun_of (d := d__law_number) rfl (c.fn_ 14 rfl).1 (c.fn_ 14 rfl).2
  g__law_number := He.glo_ok X G (c.fact 27 (f := (He.Fa.glo "_law_number").ok) rfl)
  F__law_refused := fun_of (d := d__law_refused) rfl (c.fn_ 15 rfl).1 (c.fn_ 15 rfl).2
  g__law_refused := He.glo_ok X G (c.fact 28 (f := (He.Fa.glo "_law_refused").ok) rfl)
  F_law := fun_of (d := d_law) rfl (c.fn_ 16 rfl).1 (c.fn_ 16 rfl).2
  g_law := He.glo_ok X G (c.fact 29 (f := (He.Fa.glo "law").ok) rfl)
  nl := c.fact 30 (f := noList) rfl
  g_LadderError := He.glo_ok X G (c.fact 31 (f := (He.Fa.glo "LadderError").ok) rfl)
  g_BadNumber := He.glo_ok X G (c.fact 32 (f := (He.Fa.glo "BadNumber").ok) rfl)
  er_BadNumber := ErD.txt PySem.W.kxs_ValueError PySem.F.excBase_ValueError PySem.F.store_ValueError ini_BadNumber (fun _ _ _ _ _ _ _ _ _ => rfl) (by decide +kernel) (c.er_ 0 rfl) (c.fact 33 (f := fun K => erB P0.main.file "ValueError" "ValueError.__new__" "ValueError.__init__" He.veBase K e_BadNumber) rfl)
  xf_1 := excB_ok (c.fact 34 (f := fun K => excB K (caK K 1)) rfl)
  no_1 := eqO_ok (c.fact 35 (f := fun K => eqO (PySem.W.findIn K (.ref (caK K 1)) "number") (some none)) rfl)
  exm_1_BadNumber := of_decide_eq_true (c.fact 36 (f := (fun K => decide (PySem.W.exmOne K (.ref (caK K 1)) (.ref (caK K 1)) = some true))) rfl)
  kit_1_LadderError := of_decide_eq_true (c.fact 37 (f := (fun K => decide (PySem.W.kitOne K (.ref (caK K 1)) (.ref (caK K 0)) = some true))) rfl)
abbrev R : PySem.W.OpenRow := PySem.W.OpenLaw.row PySem.Challenge.rw_liftedladders_k01_fractions
abbrev hk : PySem.W.Hook := hookL 5 fa fn er
def ob (s : PySem.W.SharedT) : AlL := obsLG 5 fa fn er (HandSHeadRun.getT s)
theorem ob_eq (s : PySem.W.SharedT) : ob s = hk.obs s.abs := obsLG_eq (HandSHeadRun.getT_eq s)
def loose : List Str := (["is_integer", "is_whole", "common_divisor", "is_fraction", "fraction", "added", "less", "multiplied", "is_above", "_law_pool", "_law_draw", "_law_pick", "_law_right_fraction", "_law_is", "_law_number", "_law_refused", "LadderError", "BadNumber"] : List Str)
theorem run (w : World) : HandSHeadRun.RunEq R (PySem.W.view R.prog [21]) hk ob 4000 loose w := by
  intro os
  kernel_rfl
end K01
open PySem PySem.W PySem.Calls PyProof.Rows in
theorem K01.holds_of (p : K01.Plain) : PySem.Challenge.rw_liftedladders_k01_fractions.Holds := by
  w_on; o_law
  refine HandSHeadRun.head_any (r := OpenLaw.row PySem.Challenge.rw_liftedladders_k01_fractions) (q := view (OpenLaw.row PySem.Challenge.rw_liftedladders_k01_fractions).prog [21]) (H := K01.hk) (ob := K01.ob) (M := 4000) (loose := K01.loose) (d := HandSHeadRun.topDef (OpenLaw.row PySem.Challenge.rw_liftedladders_k01_fractions).prog 21) (kwd := []) K01.ob_eq
    (by kernel_rfl) (fun s => by kernel_rfl) K01.run (by kernel_rfl) (by kernel_rfl) (by kernel_rfl) (by rfl) (by first | assumption | decide +kernel) (by decide +kernel) ⟨rfl, rfl, rfl, rfl, rfl, by decide +kernel⟩ ?hw ?hc
  case hw => w_witness2
  case hc =>
    refine Lad.walk_W (l := PySem.Challenge.rw_liftedladders_k01_fractions) (n := 63) (k := 4) (x := "_law_script") rfl (by decide) (by kernel_rfl) ⟨rfl, by decide, by decide⟩ ?F
    intro w mg fa h Y G hmg0
    obtain ⟨K, KX, c⟩ := Y
    have hmg : mg ("law" : PySem.Str) = some (.ref fa) := by
      have e : (HandSHeadRun.topDef (OpenLaw.row PySem.Challenge.rw_liftedladders_k01_fractions).prog 21).name = ("law" : PySem.Str) := by kernel_rfl
      rw [← e]
      exact hmg0
    have t := K01.txt KX G c
    have e := hmg.symm.trans t.g_law
    cases e
    refine ⟨K, Lad.fdOf K (He.ga K "law"), _, KX, ?_, fun H a ns hl hO hS => Lad.sp_law (S := ⟨K, (K01.TT K).ca, (K01.TT K).nm, (K01.TT K).fld, (K01.TT K).ex⟩) t.nl p hl hO hS, fun base _ _ => K01.ok_law t⟩
    obtain ⟨oc, od, kV, doc, pm, an, cdv, ct, osl, e, lk, hcd⟩ := t.F_law.ex
    rw [e]
    exact fun s u => BindsTo.of_eq rfl
end
/-! ## P1 -/
section
set_option maxRecDepth 10000
namespace Lad
theorem nmod (m n : Nat) : ((m : Int)).fmod (n : Int) = ((m % n : Nat) : Int) := by
  rw [Int.fmod_eq_emod_of_nonneg _ (Int.natCast_nonneg n)]
  rfl
theorem half {m n : Nat} (hr : 0 < m % n) (hn : 0 < n) : 2 * (n % (m % n)) < n := by
  have h1 : m % n < n := Nat.mod_lt _ hn
  have h2 : n % (m % n) < m % n := Nat.mod_lt _ hr
  have h3 : n % (m % n) ≤ n - m % n := by
    rw [Nat.mod_eq_sub_mod (Nat.le_of_lt h1)]
    exact Nat.mod_le _ _
  omega
theorem gcd_step (m n : Nat) : Nat.gcd n (m % n) = Nat.gcd m n := by
  rw [Nat.gcd_comm m n, Nat.gcd_rec n m, Nat.gcd_comm]
end Lad
namespace K01
open PySem L2 Lad
/-! ### gcd -/
theorem gcd_loop (h : Hea) : ∀ (k n : Nat) (a b : Nat), b < 2 ^ k → 2 * k + 2 ≤ n →
    whG (eBin oGt (eVar 1) (eC (.int 0))) (sPar [0, 1] (aCons (eVar 1) (aCons (eBin oMod (eCB gInt (aCons (eVar 0) aNil)) (eCB gInt (aCons (eVar 1) aNil))) aNil))) n [some (.int a), some (.int b)] h = .nx [some (.int (Nat.gcd a b)), some (.int 0)] h
  | 0, n + 1, a, b, hk, hn => by
    have hz : b = 0 := by simp at hk; exact hk
    subst hz
    unfold whG
    simp
  | k + 1, n + 1, a, b, hk, hn => by
    have e1 : ∀ (n a b : Nat), whG (eBin oGt (eVar 1) (eC (.int 0))) (sPar [0, 1] (aCons (eVar 1) (aCons (eBin oMod (eCB gInt (aCons (eVar 0) aNil)) (eCB gInt (aCons (eVar 1) aNil))) aNil))) (n + 1) [some (.int a), some (.int b)] h =
        if b = 0 then .nx [some (.int a), some (.int 0)] h else whG (eBin oGt (eVar 1) (eC (.int 0))) (sPar [0, 1] (aCons (eVar 1) (aCons (eBin oMod (eCB gInt (aCons (eVar 0) aNil)) (eCB gInt (aCons (eVar 1) aNil))) aNil))) n [some (.int b), some (.int ((a % b : Nat) : Int))] h := by
      intro n a b
      by_cases hz : b = 0
      · subst hz
        unfold whG
        simp
      · have hp : (0 : Int) < b := by omega
        have hne : (b : Int) ≠ 0 := by omega
        conv => lhs; unfold whG
        simp [hz, Nat.pos_of_ne_zero hz, hne, nmod]
    rw [e1]
    by_cases hz : b = 0
    · subst hz
      simp
    · rw [if_neg hz]
      match n, hn with
      | n + 1, hn =>
        rw [e1]
        by_cases hr : a % b = 0
        · rw [if_pos hr, ← gcd_step a b, hr]
          simp
        · rw [if_neg hr, gcd_loop h k n _ _ ?_ (by omega), gcd_step, gcd_step]
          have := half (m := a) (n := b) (by omega) (by omega)
          have e : 2 ^ (k + 1) = 2 * 2 ^ k := by rw [Nat.pow_succ]; omega
          omega
theorem gcd_ok (h : Hea) (a b : Int) (hb : b.natAbs < 2 ^ 2000) : c_common_divisor [.int a, .int b] h = .ok (.int (Int.gcd a b)) h := by
  unfold c_common_divisor runB b_common_divisor
  simp [startE, sWhile, l_common_divisor_0]
  rw [gcd_loop h 2000 5000 a.natAbs b.natAbs hb (by omega)]
  simp
  exact fin_flat rfl
end K01
end
/-! ## P2 -/
section
set_option maxRecDepth 10000
namespace K01
open PySem L2 Lad
/-! ### fractions -/
def sg (o u : Int) : Int := if 0 < u then (Int.gcd o u : Int) else -(Int.gcd o u : Int)
def fp (o u : Int) : Int := o.fdiv (sg o u)
def fq (o u : Int) : Int := u.fdiv (sg o u)
structure FrOk (o u p q : Int) : Prop where
  pos : 0 < q
  cop : Int.gcd p q = 1
  eq : p * u = o * q
  lp : p.natAbs ≤ o.natAbs
  lq : q.natAbs ≤ u.natAbs
theorem fr_ok {o u : Int} (hu : u ≠ 0) : FrOk o u (fp o u) (fq o u) ∧ sg o u ≠ 0 ∧ (sg o u).natAbs ≤ u.natAbs := by
  obtain ⟨g, hgd⟩ : ∃ g, g = Int.gcd o u := ⟨_, rfl⟩
  have hg : 0 < g := by rw [hgd]; exact Int.gcd_pos_of_ne_zero_right o hu
  obtain ⟨o', ho⟩ : (g : Int) ∣ o := by rw [hgd]; exact Int.gcd_dvd_left ..
  obtain ⟨u', hu'⟩ : (g : Int) ∣ u := by rw [hgd]; exact Int.gcd_dvd_right ..
  have hc : Int.gcd o' u' = 1 := by
    have e : g = g * Int.gcd o' u' := by
      have := hgd
      rw [ho, hu', Int.gcd_mul_left] at this
      simpa using this
    have e2 : g * 1 = g * Int.gcd o' u' := by omega
    exact (Nat.eq_of_mul_eq_mul_left hg e2).symm
  have ab : ∀ x : Int, x.natAbs ≤ ((g : Int) * x).natAbs := fun x => by
    rw [Int.natAbs_mul]
    exact Nat.le_mul_of_pos_left _ (by simpa using hg)
  have gu : g ≤ u.natAbs := by
    have hz : u' ≠ 0 := fun z => by rw [z] at hu'; simp at hu'; exact hu hu'
    rw [hu', Int.natAbs_mul]
    exact Nat.le_mul_of_pos_right _ (by omega)
  by_cases hp : 0 < u
  · have es : sg o u = g := by
      unfold sg
      rw [if_pos hp, hgd]
    have ep : fp o u = o' := by
      unfold fp
      rw [es, ho]
      exact Int.mul_fdiv_cancel_left _ (by omega)
    have eq : fq o u = u' := by
      unfold fq
      rw [es, hu']
      exact Int.mul_fdiv_cancel_left _ (by omega)
    rw [ep, eq, es]
    refine ⟨⟨?_, hc, ?_, by rw [ho]; exact ab o', by rw [hu']; exact ab u'⟩, by omega, by omega⟩
    · rw [hu'] at hp
      exact Int.pos_of_mul_pos_right hp (by omega)
    · rw [ho, hu', Int.mul_comm o', Int.mul_assoc, Int.mul_assoc, Int.mul_comm u']
  · have es : sg o u = -g := by
      unfold sg
      rw [if_neg hp, hgd]
    have ep : fp o u = -o' := by
      unfold fp
      rw [es, ho, show (g : Int) * o' = (-(g : Int)) * (-o') by rw [Int.neg_mul_neg]]
      exact Int.mul_fdiv_cancel_left _ (by omega)
    have eq : fq o u = -u' := by
      unfold fq
      rw [es, hu', show (g : Int) * u' = (-(g : Int)) * (-u') by rw [Int.neg_mul_neg]]
      exact Int.mul_fdiv_cancel_left _ (by omega)
    rw [ep, eq, es]
    refine ⟨⟨?_, by simpa using hc, ?_, by rw [ho, Int.natAbs_neg]; exact ab o', by rw [hu', Int.natAbs_neg]; exact ab u'⟩, by omega, by omega⟩
    · have hm : 0 < (g : Int) * (-u') := by
        rw [Int.mul_neg, ← hu']
        omega
      exact Int.pos_of_mul_pos_right hm (by omega)
    · rw [ho, hu', Int.neg_mul, Int.mul_neg, Int.mul_comm o', Int.mul_assoc, Int.mul_assoc, Int.mul_comm u']
theorem frac_ok (h : Hea) {o u : Int} (hu : u ≠ 0) (bu : u.natAbs < 2 ^ 2000) : c_fraction [.int o, .int u] h = .ok (.tup [.int (fp o u), .int (fq o u)]) h := by
  have ⟨_, s0, sl⟩ := fr_ok (o := o) hu
  have l9 : (sg o u).natAbs.log2 < 9000 := log2_lt (k := 9000) (by
    have : (2 : Nat) ^ 2000 ≤ 2 ^ 9000 := Nat.pow_le_pow_right (by decide) (by decide)
    omega) (by decide)
  unfold c_fraction runB b_fraction
  simp only [List.length_cons, List.length_nil, startE]
  by_cases hp : 0 < u
  · have es : sg o u = Int.gcd o u := by unfold sg; rw [if_pos hp]
    have s0' : ¬ ((Int.gcd o u : Nat) : Int) = 0 := by rw [← es]; exact s0
    have l9' : ((Int.gcd o u : Nat) : Int).natAbs.log2 < 9000 := by rw [← es]; exact l9
    simp [hu, hp, gcd_ok _ _ _ bu, s0', l9', -Int.natCast_eq_zero, -Int.gcd_eq_zero_iff, -Int.natAbs_natCast]
    unfold fp fq
    rw [es]
    exact fin_flat rfl
  · have es : sg o u = -Int.gcd o u := by unfold sg; rw [if_neg hp]
    have s0' : ¬ -((Int.gcd o u : Nat) : Int) = 0 := by rw [← es]; exact s0
    have l9' : (-((Int.gcd o u : Nat) : Int)).natAbs.log2 < 9000 := by rw [← es]; exact l9
    simp [hu, hp, gcd_ok _ _ _ bu, s0', l9', -Int.neg_eq_zero, -Int.natAbs_neg, -Int.natAbs_natCast]
    unfold fp fq
    rw [es]
    exact fin_flat rfl
theorem frac_0 (h : Hea) (o : Int) : c_fraction [.int o, .int 0] h = .exc 1 (.int 0) h := by
  unfold c_fraction runB b_fraction
  simp [startE, begins_rfl, Val.flat]
end K01
end
/-! ## P3 -/
section
set_option maxRecDepth 10000
namespace K01
open PySem L2 Lad
theorem rf_loop (h : Hea) (v x : Option Val) : ∀ (k n : Nat) (a b : Nat), b < 2 ^ k → 2 * k + 2 ≤ n →
    whG (eBin oNe (eVar 2) (eC (.int 0))) (sPar [1, 2] (aCons (eVar 2) (aCons (eBin oMod (eCB gInt (aCons (eVar 1) aNil)) (eVar 2)) aNil))) n [v, some (.int a), some (.int b), x] h = .nx [v, some (.int (Nat.gcd a b)), some (.int 0), x] h
  | 0, n + 1, a, b, hk, hn => by
    have hz : b = 0 := by simp at hk; exact hk
    subst hz
    unfold whG
    simp
  | k + 1, n + 1, a, b, hk, hn => by
    have e1 : ∀ (n a b : Nat), whG (eBin oNe (eVar 2) (eC (.int 0))) (sPar [1, 2] (aCons (eVar 2) (aCons (eBin oMod (eCB gInt (aCons (eVar 1) aNil)) (eVar 2)) aNil))) (n + 1) [v, some (.int a), some (.int b), x] h =
        if b = 0 then .nx [v, some (.int a), some (.int 0), x] h else whG (eBin oNe (eVar 2) (eC (.int 0))) (sPar [1, 2] (aCons (eVar 2) (aCons (eBin oMod (eCB gInt (aCons (eVar 1) aNil)) (eVar 2)) aNil))) n [v, some (.int b), some (.int ((a % b : Nat) : Int)), x] h := by
      intro n a b
      by_cases hz : b = 0
      · subst hz
        unfold whG
        simp
      · have hne : ¬ (b : Int) = 0 := by omega
        conv => lhs; unfold whG
        simp [hz, hne, nmod]
    rw [e1]
    by_cases hz : b = 0
    · subst hz
      simp
    · rw [if_neg hz]
      match n, hn with
      | n + 1, hn =>
        rw [e1]
        by_cases hr : a % b = 0
        · rw [if_pos hr, ← gcd_step a b, hr]
          simp
        · rw [if_neg hr, rf_loop h v x k n _ _ ?_ (by omega), gcd_step, gcd_step]
          have := half (m := a) (n := b) (by omega) (by omega)
          have e : 2 ^ (k + 1) = 2 * 2 ^ k := by rw [Nat.pow_succ]; omega
          omega
theorem whole_int (h : Hea) (a : Int) : c_is_whole [.int a] h = .ok (.bl true) h := by
  unfold c_is_whole runB b_is_whole
  simp [startE, oIsi, tyK, isTB]
  exact fin_flat rfl
theorem flatTup (p q : Int) : (Val.tup [.int p, .int q]).flat = true := rfl
theorem fin_app {h t : Hea} {d : Val} (hd : d.flat = true) : fin h d (h ++ t) = .ok d h := by
  unfold fin
  rw [if_pos (begins_app h t), if_pos hd]
theorem fin_lst {h : Hea} {xs : List Val} (hx : flatL xs = true) : fin h (.ref h.length) (h ++ [.lst xs]) = .ok (.ref h.length) (h ++ [.lst xs]) := by
  unfold fin
  rw [if_pos (begins_app h _), if_neg (by simp [Val.flat])]
  simp [hx]
theorem eq_nils {h : Hea} {i j : Nat} (h1 : lstAt h i = some []) (h2 : lstAt h j = some []) : eqB h (.ref i) (.ref j) = some true := by
  unfold eqB
  simp only [toD, h1, h2, mapO]
  rw [if_pos ⟨rfl, rfl⟩]
  rfl
theorem rf_ok (h : Hea) {p q : Int} (hq : 0 < q) (bq : q.natAbs < 2 ^ 2000) (hc : Int.gcd p q = 1) : c__law_right_fraction [.tup [.int p, .int q]] h = .ok (.bl true) h := by
  unfold c__law_right_fraction runB b__law_right_fraction
  have e0 : eqB (h ++ [Ob.lst [], Ob.lst []]) (Val.ref h.length) (Val.ref (h.length + 1)) = some true := eq_nils (by simp [lstAt]) (by simp [lstAt])
  have e1 := rf_loop (h ++ [Ob.lst [], Ob.lst []]) (some (Val.tup [Val.int p, Val.int q])) none 2000 5000 p.natAbs q.natAbs bq (by omega)
  have eq : ((q.natAbs : Nat) : Int) = q := by omega
  have ec : Nat.gcd p.natAbs q.natAbs = 1 := hc
  rw [eq, ec] at e1
  simp [startE, oIsi, tyK, isTB, lComp, iSeq, srcFix, compG, wipeE, sWhile, l__law_right_fraction_0, e0, e1, hq]
  exact fin_app rfl
theorem is_ok (h : Hea) {p q a b : Int} (hq : 0 < q) (bq : q.natAbs < 2 ^ 2000) (bp : p.natAbs < 2 ^ 2000) (ba : a.natAbs < 2 ^ 2000) (bb : b.natAbs < 2 ^ 2000) (hc : Int.gcd p q = 1) (he : p * b = a * q) :
    c__law_is [.tup [.int p, .int q], .int a, .int b] h = .ok (.bl true) h := by
  have up : ∀ {x : Int}, x.natAbs < 2 ^ 2000 → x.natAbs < 2 ^ 400000 := fun {x} hx => Nat.lt_of_lt_of_le hx (Nat.pow_le_pow_right (by decide) (by decide))
  unfold c__law_is runB b__law_is
  simp [startE, rf_ok h hq bq hc, mulOk_of (up bp) (up bb), mulOk_of (up ba) (up bq), he]
  exact fin_flat rfl
theorem isf_ok (h : Hea) (p q : Int) (bq : q.natAbs < 2 ^ 2000) : c_is_fraction [.tup [.int p, .int q]] h = .ok (.bl (decide (0 < q ∧ Int.gcd p q = 1))) h := by
  unfold c_is_fraction runB b_is_fraction
  by_cases hq : 0 < q
  · simp [startE, oIsi, tyK, isTB, lComp, iSeq, srcFix, compG, wipeE, whole_int, gAll, bls?, gcd_ok _ _ _ bq, hq]
    have z : (((Int.gcd p q : Nat) : Int) = 1) ↔ Int.gcd p q = 1 := by omega
    simp only [z]
    exact fin_flat rfl
  · simp [startE, oIsi, tyK, isTB, lComp, iSeq, srcFix, compG, wipeE, whole_int, gAll, bls?, gcd_ok _ _ _ bq, hq]
    exact fin_flat rfl
theorem above_ok (h : Hea) (p q r s : Int) (m1 : mulOk p s = true) (m2 : mulOk r q = true) : c_is_above [.tup [.int p, .int q], .tup [.int r, .int s]] h = .ok (.bl (decide (r * q < p * s))) h := by
  unfold c_is_above runB b_is_above
  simp [startE, m1, m2]
  exact fin_flat rfl
theorem added_ok (h : Hea) (p q r s : Int) (m1 : mulOk p s = true) (m2 : mulOk r q = true) (m3 : mulOk q s = true) (h0 : q * s ≠ 0) (b : (q * s).natAbs < 2 ^ 2000) :
    c_added [.tup [.int p, .int q], .tup [.int r, .int s]] h = .ok (.tup [.int (fp (p * s + r * q) (q * s)), .int (fq (p * s + r * q) (q * s))]) h := by
  unfold c_added runB b_added
  simp [startE, m1, m2, m3, frac_ok h h0 b]
  exact fin_flat rfl
theorem less_ok (h : Hea) (p q r s : Int) (m1 : mulOk p s = true) (m2 : mulOk r q = true) (m3 : mulOk q s = true) (h0 : q * s ≠ 0) (b : (q * s).natAbs < 2 ^ 2000) :
    c_less [.tup [.int p, .int q], .tup [.int r, .int s]] h = .ok (.tup [.int (fp (p * s - r * q) (q * s)), .int (fq (p * s - r * q) (q * s))]) h := by
  unfold c_less runB b_less
  simp [startE, m1, m2, m3, frac_ok h h0 b]
  exact fin_flat rfl
theorem mul_ok (h : Hea) (p q r s : Int) (m1 : mulOk p r = true) (m3 : mulOk q s = true) (h0 : q * s ≠ 0) (b : (q * s).natAbs < 2 ^ 2000) :
    c_multiplied [.tup [.int p, .int q], .tup [.int r, .int s]] h = .ok (.tup [.int (fp (p * r) (q * s)), .int (fq (p * r) (q * s))]) h := by
  unfold c_multiplied runB b_multiplied
  simp [startE, m1, m3, frac_ok h h0 b]
  exact fin_flat rfl
theorem isi_ok (h : Hea) (a l u : Int) : c_is_integer [.int a, .int l, .int u] h = .ok (.bl (decide (l ≤ a ∧ a ≤ u))) h := by
  unfold c_is_integer runB b_is_integer
  by_cases hl : l ≤ a
  · simp [startE, whole_int, hl]
    exact fin_flat rfl
  · simp [startE, whole_int, hl]
    exact fin_flat rfl
theorem refused_ok (h : Hea) (a : Int) : c__law_refused [.int a, .int 0] h = .ok (.ref h.length) (h ++ [.lst [.str "0", .bl true]]) := by
  unfold c__law_refused runB b__law_refused
  simp [startE, sTry1, frac_0, sub_BadNumber, oExF, oIsX, sub_LadderError, gReprB, suiteEnd, begins_app, noExH, noExL, Ob.noEx, Val.noEx]
  exact fin_lst rfl
end K01
end
/-! ## P4 -/
section
set_option maxRecDepth 10000
namespace Lad
open PySem L2
theorem fin_len {h h' : Hea} {d : Val} (hd : d.flat = true) (hl : h'.length = h.length) : fin h d h' = .ok d h' := by
  unfold fin
  split
  · rename_i hb
    obtain ⟨t, rfl⟩ := begins_eq hb
    have : t = [] := by simpa using hl
    subst this
    simp [hd]
  · rfl
/-- a flat result, a heap of the same length with a tail -/
theorem fin_tail {h h' t : Hea} {d : Val} (hd : d.flat = true) (hl : h'.length = h.length) : ∃ t', fin h d (h' ++ t) = .ok d (h' ++ t') := by
  unfold fin
  split
  · rename_i hb
    obtain ⟨u, hu⟩ := begins_eq hb
    have : h' = h := (List.append_inj hu hl).1
    subst this
    exact ⟨[], by simp [hd]⟩
  · exact ⟨t, rfl⟩
section
variable {h : Hea} {p : Nat} {x y : Val}
theorem lt_of_at {o : Ob} (e : h[p]? = some o) : p < h.length := (List.getElem?_eq_some_iff.mp e).1
theorem ls_at {xs : List Val} (e : h[p]? = some (.lst xs)) : lstAt h p = some xs := by unfold lstAt; rw [e]
theorem ix_at0 (e : h[p]? = some (.lst [x, y])) : oIx h (.ref p) (.int 0) = some x := by
  unfold oIx
  simp only [it_ref, ls_at e]
  rfl
theorem ix_at1 (e : h[p]? = some (.lst [x, y])) : oIx h (.ref p) (.int 1) = some y := by
  unfold oIx
  simp only [it_ref, ls_at e]
  rfl
theorem set_at0 (e : h[p]? = some (.lst [x, y])) (v : Val) : setIx h (.ref p) (.int 0) v = some (h.set p (.lst [v, y])) := by
  unfold setIx
  simp only [e]
  rfl
theorem set_at1 (e : h[p]? = some (.lst [x, y])) (v : Val) : setIx h (.ref p) (.int 1) v = some (h.set p (.lst [x, v])) := by
  unfold setIx
  simp only [e]
  rfl
end
@[simp] theorem ap_setIx (fv fo fi : En → Hea → Res Val) (e : En) (h : Hea) : sSetIx fv fo fi e h = ofR ((fv e h).bind fun v h1 => (fo e h1).bind fun o h2 => (fi e h2).bind fun i h3 => match setIx h3 o i v with
    | some h4 => .ok Val.non h4
    | none => .stuck) e fun _ h4 => .nx e h4 := rfl
/-- a pool stands at p -/
def PoolAt (h : Hea) (p : Nat) : Prop := ∃ a b : Int, h[p]? = some (.lst [.int a, .int b]) ∧ 0 ≤ a ∧ 0 ≤ b ∧ b < 2147483647
end Lad
namespace K01
open PySem L2 Lad
theorem draw_ok {h : Hea} {p : Nat} {m : Int} (P : PoolAt h p) (hm : 0 < m) (lm : m.natAbs.log2 < 9000) :
    ∃ (r : Int) (o : Ob), 0 ≤ r ∧ r < m ∧ PoolAt (h.set p o) p ∧ c__law_draw [.ref p, .int m] h = .ok (.int r) (h.set p o) := by
  obtain ⟨a, b, e, ha, hb, hb2⟩ := P
  have lt := lt_of_at e
  have hm' : ¬ m = 0 := by omega
  unfold c__law_draw runB b__law_draw
  by_cases h0 : 0 < a
  · refine ⟨a.fmod m, .lst [.int (a.fdiv m), .int b], Int.fmod_nonneg_of_pos _ hm, Int.fmod_lt_of_pos _ hm, ⟨a.fdiv m, b, by simp [lt], Int.fdiv_nonneg ha (by omega), hb, hb2⟩, ?_⟩
    simp [startE, ix_at0 e, set_at0 e, h0, hm', lm]
    exact fin_len rfl (by simp)
  · have a0 : a = 0 := by omega
    subst a0
    have m1 : mulOk b 48271 = true := mulOk_r (by decide)
    have nb : 0 ≤ (b * 48271 + 11).fmod 2147483647 := Int.fmod_nonneg_of_pos _ (by decide)
    have nb2 : (b * 48271 + 11).fmod 2147483647 < 2147483647 := Int.fmod_lt_of_pos _ (by decide)
    generalize hn : (b * 48271 + 11).fmod 2147483647 = nb' at nb nb2
    have e2 : (h.set p (.lst [.int 0, .int nb']))[p]? = some (.lst [.int 0, .int nb']) := by simp [lt]
    have m2 : mulOk nb' nb' = true := mulOk_r (by omega)
    refine ⟨(((nb' * nb').fmod 2147483629).fdiv 16).fmod m, .lst [.int 0, .int nb'], Int.fmod_nonneg_of_pos _ hm, Int.fmod_lt_of_pos _ hm, ⟨0, nb', e2, Int.le_refl _, nb, nb2⟩, ?_⟩
    have l16 : Nat.log2 16 < 9000 := by decide
    simp [startE, ix_at0 e, ix_at1 e, set_at1 e, m1, hn, ix_at1 e2, m2, hm', l16]
    exact fin_len rfl (by simp)
theorem at_app {h t : Hea} {i : Nat} {o : Ob} (e : h[i]? = some o) : (h ++ t)[i]? = some o := by
  rw [List.getElem?_append_left (lt_of_at e)]
  exact e
theorem ls_new (h : Hea) (xs : List Val) : (h ++ [Ob.lst xs])[h.length]? = some (.lst xs) := by simp
/-- an item of a row, by a draw -/
theorem pick_ok {h : Hea} {p q : Nat} {xs : List Val} (P : PoolAt h p) (e : h[q]? = some (.lst xs)) (hpq : p ≠ q) (h0 : xs ≠ []) (hl : xs.length < 1000) (hf : flatL xs = true) :
    ∃ (x : Val) (o : Ob), x ∈ xs ∧ PoolAt (h.set p o) p ∧ c__law_pick [.ref p, .ref q] h = .ok x (h.set p o) := by
  have hp : (0 : Int) < xs.length := by
    have : 0 < xs.length := List.length_pos_iff.mpr h0
    omega
  obtain ⟨r, o, hr0, hr1, P', ed⟩ := draw_ok (m := xs.length) P hp (log2_lt (k := 1000) (by
    have : (1000 : Nat) ≤ 2 ^ 1000 := by decide
    omega) (by decide) |> fun z => Nat.lt_of_lt_of_le z (by decide))
  have hrn : r.toNat < xs.length := by omega
  have e2 : (h.set p o)[q]? = some (.lst xs) := by rw [List.getElem?_set_ne hpq]; exact e
  have eix : oIx (h.set p o) (.ref q) (.int r) = some xs[r.toNat] := by
    unfold oIx
    simp only [it_ref, ls_at e2]
    unfold atI ixN
    rw [if_pos hr0, if_pos hr1]
    simp [hrn]
  have fx : (xs[r.toNat]).flat = true := by
    have : ∀ (ys : List Val), flatL ys = true → ∀ y ∈ ys, y.flat = true := by
      intro ys
      induction ys with
      | nil => intro _ y hy; cases hy
      | cons a r ih =>
        intro hh y hy
        unfold flatL at hh
        rw [Bool.and_eq_true] at hh
        rcases List.mem_cons.mp hy with rfl | hy
        · exact hh.1
        · exact ih hh.2 y hy
    exact this xs hf _ (List.getElem_mem _)
  refine ⟨xs[r.toNat], o, List.getElem_mem _, P', ?_⟩
  unfold c__law_pick runB b__law_pick
  simp [startE, ls_at e, ed, eix]
  exact fin_len fx (by simp)
theorem pow30 (h : Hea) : oPow h (.int 10) (.int 30) = some (.int 1000000000000000000000000000000) := rfl
/-- a number of up to thirty digits -/
theorem number_ok {h : Hea} {p : Nat} (P : PoolAt h p) : ∃ (r : Int) (o : Ob) (t : Hea), r.natAbs ≤ 10 ^ 30 ∧ PoolAt (h.set p o ++ t) p ∧ c__law_number [.ref p] h = .ok (.int r) (h.set p o ++ t) := by
  have lt : p < h.length := by obtain ⟨_, _, e, _⟩ := P; exact lt_of_at e
  obtain ⟨r1, o1, a1, b1, P1, e1⟩ := draw_ok (m := 2000000000000000000000000000000) P (by decide) (by decide)
  obtain ⟨r2, o2, a2, b2, P2, e2⟩ := draw_ok (m := 12) P1 (by decide) (by decide)
  rw [List.set_set] at P2 e2
  generalize hxs : [Val.int 0, .int 1, .int (-1), .int 6, .int (-6), .int (r1 - 1000000000000000000000000000000), .int r2] = xs
  have P3 : PoolAt (h.set p o2 ++ [.lst xs]) p := by
    obtain ⟨a, b, e, r⟩ := P2
    exact ⟨a, b, at_app e, r⟩
  have hq : (h.set p o2 ++ [.lst xs])[h.length]? = some (.lst xs) := by
    have := ls_new (h.set p o2) xs
    rw [List.length_set] at this
    exact this
  obtain ⟨x, o3, hx, P4, e4⟩ := pick_ok P3 hq (by omega) (by rw [← hxs]; simp) (by rw [← hxs]; simp) (by rw [← hxs]; rfl)
  have es : (h.set p o2 ++ [Ob.lst xs]).set p o3 = h.set p o3 ++ [.lst xs] := by
    rw [List.set_append_left _ _ (by simpa using lt), List.set_set]
  rw [es] at P4 e4
  have xr : ∃ r : Int, x = .int r ∧ r.natAbs ≤ 10 ^ 30 := by
    rw [← hxs] at hx
    simp only [List.mem_cons, List.not_mem_nil, or_false] at hx
    rcases hx with rfl | rfl | rfl | rfl | rfl | rfl | rfl <;> refine ⟨_, rfl, ?_⟩ <;> omega
  obtain ⟨r, rfl, hr⟩ := xr
  obtain ⟨t', et⟩ := fin_tail (h := h) (h' := h.set p o3) (t := [.lst xs]) (d := .int r) rfl (by simp)
  refine ⟨r, o3, t', hr, ?_, ?_⟩
  · obtain ⟨a, b, e, rest⟩ := P4
    have lt2 : p < (h.set p o3).length := by simpa using lt
    rw [List.getElem?_append_left lt2] at e
    exact ⟨a, b, at_app e, rest⟩
  · unfold c__law_number runB b__law_number
    have mk : mulOk 2 1000000000000000000000000000000 = true := mulOk_l (by decide)
    simp [startE, pow30, mk, e1, e2]
    rw [hxs, e4]
    exact et
theorem cut_ints (ns : List Int) (l u : Option Int) : ∃ ms : List Int, cutL (ns.map Val.int) l u = ms.map Val.int := by
  unfold cutL
  exact ⟨_, by rw [← List.map_drop, ← List.map_take]⟩
theorem ints_map : ∀ ms : List Int, ints? (ms.map Val.int) = some ms
  | [] => rfl
  | m :: ms => by
    show (ints? (ms.map Val.int)).map (m :: ·) = _
    rw [ints_map ms]
    rfl
theorem pow18 (h : Hea) : oPow h (.int 10) (.int 18) = some (.int 1000000000000000000) := rfl
theorem pool_cell {h : Hea} {ns : List Int} {k : Nat} (el : lstAt h 0 = some (ns.map Val.int)) : ∃ c : Int, eIf (eBin oLt (eVar 1) (eIt gLen (eVar 0))) (eBin oIx (eVar 0) (eVar 1)) (eBin oAdd (eBin oMul (eC (.int 7)) (eItL gSum (lCut (eVar 0) none (some (eC (.int 63)))))) (eVar 1)) [some (.ref 0), some (.int k), none, none, none] h = .ok (.int c) h := by
  by_cases hl : k < ns.length
  · have eix : oIx h (.ref 0) (.int k) = some (.int ns[k]) := by
      unfold oIx
      simp only [it_ref, el]
      unfold atI ixN
      simp [hl]
    exact ⟨ns[k], by simp [el, hl, eix]⟩
  · obtain ⟨ms, em⟩ := cut_ints ns none (some 63)
    have m7 : mulOk 7 ms.sum = true := mulOk_l (by decide)
    exact ⟨7 * ms.sum + k, by simp [el, hl, lCut, eOpt, em, gSum, ints_map, m7]⟩
theorem seq_set {f : En → Hea → Res Val} {g : En → Hea → SRes} {e : En} {h h1 : Hea} {d : Val} {i : Nat} {r : SRes} (e1 : f e h = .ok d h1) (e2 : g (e.set i (some d)) h1 = r) : sSeq (sSet i f) g e h = r := by
  unfold sSeq sSet
  rw [e1]
  exact e2
theorem ret_ {f : En → Hea → Res Val} {e : En} {h h1 : Hea} {d : Val} (e1 : f e h = .ok d h1) : sRet f e h = .rt d h1 := by
  unfold sRet
  rw [e1]
  rfl
theorem run_rt {np ns : Nat} {b : En → Hea → SRes} {ds : List Val} {h h' : Hea} {d : Val} (hl : ds.length = np) (e : b (startE ns ds) h = .rt d h') : runB np ns b ds h = fin h d h' := by
  unfold runB
  rw [if_pos hl, e]
theorem pool_run {h : Hea} {k c s x y g T : Int} (hT : oPow h (.int 10) (.int 18) = some (.int T)) (ec' : eIf (eBin oLt (eVar 1) (eIt gLen (eVar 0))) (eBin oIx (eVar 0) (eVar 1)) (eBin oAdd (eBin oMul (eC (.int 7)) (eItL gSum (lCut (eVar 0) none (some (eC (.int 63)))))) (eVar 1)) [some (.ref 0), some (.int k), none, none, none] h = .ok (.int c) h)
    (m1 : mulOk 7919 k = true) (m2 : mulOk (7919 * k) k = true) (m3 : mulOk 31 k = true) (hx : s.fmod 2147483629 + 7919 * k * k + 31 * k + 17 = x) (m4 : mulOk x 48271 = true) (hy : (x * 48271).fmod 2147483647 = y) (m5 : mulOk y y = true)
    (ea : gAbs h [.int c] = some (.int s)) (eg : gInt h [.bl (decide (T ≤ s))] = some (.int g)) (m6 : mulOk s g = true) : c__law_pool [.ref 0, .int k] h = .ok (.ref h.length) (h ++ [.lst [.int (s * g), .int ((y * y).fmod 2147483629)]]) := by
  have e3 : (eCB gAbs (aCons (eVar 2) aNil)) [some (.ref 0), some (.int k), some (.int c), none, none] h = .ok (.int s) h := by simp [ea, -g_abs']
  have e4 : (eBin oAdd (eBin oAdd (eBin oAdd (eBin oMod (eCB gInt (aCons (eVar 3) aNil)) (eC (.int 2147483629))) (eBin oMul (eBin oMul (eC (.int 7919)) (eVar 1)) (eVar 1))) (eBin oMul (eC (.int 31)) (eVar 1))) (eC (.int 17))) [some (.ref 0), some (.int k), some (.int c), some (.int s), none] h = .ok (.int x) h := by simp [m1, m2, m3, hx]
  have e5 : (eBin oMod (eCB gInt (aCons (eBin oMul (eVar 4) (eC (.int 48271))) aNil)) (eC (.int 2147483647))) [some (.ref 0), some (.int k), some (.int c), some (.int s), some (.int x)] h = .ok (.int y) h := by simp [m4, hy]
  have e6 : (eNew (lDisp (aCons (eBin oMul (eVar 3) (eCB gInt (aCons (eBin oGe (eVar 3) (eBin oPow (eC (.int 10)) (eC (.int 18)))) aNil))) (aCons (eBin oMod (eCB gInt (aCons (eBin oMul (eVar 4) (eVar 4)) aNil)) (eC (.int 2147483629))) aNil)))) [some (.ref 0), some (.int k), some (.int c), some (.int s), some (.int y)] h = .ok (.ref h.length) (h ++ [.lst [.int (s * g), .int ((y * y).fmod 2147483629)]]) := by simp [hT, eg, m6, m5, -g_intb]
  refine (run_rt (d := .ref h.length) (h' := h ++ [.lst [.int (s * g), .int ((y * y).fmod 2147483629)]]) rfl ?_).trans (fin_lst rfl)
  unfold b__law_pool
  exact seq_set ec' (seq_set e3 (seq_set e4 (seq_set e5 (ret_ e6))))
theorem pool_ok {h : Hea} {ns : List Int} {k : Nat} (e : h[0]? = some (.fro (ns.map Val.int))) (hk : k < 64) :
    ∃ a b : Int, 0 ≤ a ∧ 0 ≤ b ∧ b < 2147483647 ∧ c__law_pool [.ref 0, .int k] h = .ok (.ref h.length) (h ++ [.lst [.int a, .int b]]) := by
  have el : lstAt h 0 = some (ns.map Val.int) := by unfold lstAt; rw [e]
  have cell := pool_cell (k := k) el
  obtain ⟨c, ec⟩ := cell
  have ec' := ec
  have m1 : mulOk 7919 (k : Int) = true := mulOk_l (by decide)
  have m2 : mulOk (7919 * (k : Int)) k = true := mulOk_r (by omega)
  have m3 : mulOk 31 (k : Int) = true := mulOk_l (by decide)
  generalize hx : ((c.natAbs : Nat) : Int).fmod 2147483629 + 7919 * (k : Int) * k + 31 * k + 17 = x
  have m4 : mulOk x 48271 = true := mulOk_r (by decide)
  generalize hy : (x * 48271).fmod 2147483647 = y
  have y0 : 0 ≤ y := by rw [← hy]; exact Int.fmod_nonneg_of_pos _ (by decide)
  have y1 : y < 2147483647 := by rw [← hy]; exact Int.fmod_lt_of_pos _ (by decide)
  have m5 : mulOk y y = true := mulOk_r (by omega)
  generalize hs : ((c.natAbs : Nat) : Int) = s at hx
  have hs0 : 0 ≤ s := by omega
  have ea : gAbs h [.int c] = some (.int s) := by rw [← hs]; exact g_abs' h c
  clear hs ec el e
  have eg : ∃ g : Int, 0 ≤ g ∧ g < 2 ∧ gInt h [.bl (decide ((1000000000000000000 : Int) ≤ s))] = some (.int g) := by
    cases decide ((1000000000000000000 : Int) ≤ s)
    · exact ⟨0, by omega, by omega, rfl⟩
    · exact ⟨1, by omega, by omega, rfl⟩
  obtain ⟨g, g0, g2, eg⟩ := eg
  have m6 : mulOk s g = true := mulOk_r (by omega)
  refine ⟨s * g, (y * y).fmod 2147483629, Int.mul_nonneg hs0 g0, Int.fmod_nonneg_of_pos _ (by decide), ?_, ?_⟩
  · have := Int.fmod_lt_of_pos (y * y) (b := 2147483629) (by decide)
    omega
  · exact pool_run (pow18 h) ec' m1 m2 m3 hx m4 hy m5 ea eg m6
end K01
end
/-! ## P5 -/
section
set_option maxRecDepth 10000
set_option maxHeartbeats 1000000
namespace Lad
open PySem L2
/-! ### statements one after the other -/
section
variable {f : En → Hea → Res Val} {fl : En → Hea → Res (List Val)} {g : En → Hea → SRes} {e e1 : En} {h h1 : Hea} {d : Val} {ds : List Val} {i : Nat} {is : List Nat} {r : SRes}
theorem seq_if {s : En → Hea → SRes} (e1 : f e h = .ok (.bl false) h1) (e2 : g e h1 = r) : sSeq (sIf f s sNil) g e h = r := by
  unfold sSeq sIf
  rw [e1]
  exact e2
theorem if_no {s : En → Hea → SRes} (e1 : f e h = .ok (.bl false) h1) : sIf f s sNil e h = .nx e h1 := by
  unfold sIf
  rw [e1]
  rfl
theorem seq_par (a1 : fl e h = .ok ds h1) (a2 : setAll is ds e = some e1) (a3 : g e1 h1 = r) : sSeq (sPar is fl) g e h = r := by
  unfold sSeq sPar
  rw [a1]
  simp only [ap_ofOk, a2]
  exact a3
theorem seq_asg (a1 : f e h = .ok (.tup ds) h1) (a2 : setAll is ds e = some e1) (a3 : g e1 h1 = r) : sSeq (sAsg (gT is) f) g e h = r := by
  unfold sSeq sAsg
  rw [a1]
  simp only [ap_ofOk, ap_gT, a2]
  exact a3
theorem seq_for {src : En → Hea → Res Src} {s : Src} {b : Val → En → Option En} {body : En → Hea → SRes} {h2 : Hea} (a1 : src e h = .ok s h1) (a2 : forG s.item b body s.fuel 0 e h1 = .nx e1 h2) (a3 : g e1 h2 = r) : sSeq (sFor src b body) g e h = r := by
  unfold sSeq sFor
  rw [a1]
  simp only [ap_ofOk, a2]
  exact a3
theorem for_ {src : En → Hea → Res Src} {s : Src} {b : Val → En → Option En} {body : En → Hea → SRes} (a1 : src e h = .ok s h1) (a2 : forG s.item b body s.fuel 0 e h1 = r) : sFor src b body e h = r := by
  unfold sFor
  rw [a1]
  exact a2
end
/-! ### loops over what does not change -/
theorem for_fix {xs : List Val} {b : Val → En → Option En} {body : En → Hea → SRes} {I : En → Hea → Prop}
    (step : ∀ x ∈ xs, ∀ e h, I e h → ∃ e1 e2 h2, b x e = some e1 ∧ body e1 h = .nx e2 h2 ∧ I e2 h2) :
    ∀ (n k : Nat) (e : En) (h : Hea), n = xs.length + 1 - k → k ≤ xs.length → I e h → ∃ e' h', forG (srcFix xs).item b body n k e h = .nx e' h' ∧ I e' h'
  | 0, k, e, h, hn, hk, i => by omega
  | n + 1, k, e, h, hn, hk, i => by
    unfold forG
    by_cases hlt : k < xs.length
    · have it : (srcFix xs).item k h = some (some xs[k]) := by simp [srcFix, hlt]
      rw [it]
      obtain ⟨e1, e2, h2, a1, a2, i2⟩ := step _ (List.getElem_mem hlt) e h i
      simp only [a1, a2]
      exact for_fix step n (k + 1) e2 h2 (by omega) (by omega) i2
    · have it : (srcFix xs).item k h = some none := by
        simp [srcFix]
        omega
      rw [it]
      exact ⟨e, h, rfl, i⟩
theorem for_all {xs : List Val} {b : Val → En → Option En} {body : En → Hea → SRes} {I : En → Hea → Prop}
    (step : ∀ x ∈ xs, ∀ e h, I e h → ∃ e1 e2 h2, b x e = some e1 ∧ body e1 h = .nx e2 h2 ∧ I e2 h2) (e : En) (h : Hea) (i : I e h) :
    ∃ e' h', forG (srcFix xs).item b body (srcFix xs).fuel 0 e h = .nx e' h' ∧ I e' h' := for_fix step _ 0 e h rfl (Nat.zero_le _) i
/-! ### bounds -/
def Bd (k : Nat) (x : Int) : Prop := x.natAbs < 2 ^ k
theorem Bd.mono {j k : Nat} {x : Int} (h : Bd j x) (l : j ≤ k) : Bd k x := Nat.lt_of_lt_of_le h (Nat.pow_le_pow_right (by decide) l)
theorem Bd.mul {j k : Nat} {x y : Int} (h : Bd j x) (i : Bd k y) : Bd (j + k) (x * y) := by
  unfold Bd at *
  rw [Int.natAbs_mul, Nat.pow_add]
  exact Nat.mul_lt_mul'' h i
theorem Bd.add {k : Nat} {x y : Int} (h : Bd k x) (i : Bd k y) : Bd (k + 1) (x + y) := by
  unfold Bd at *
  have : (x + y).natAbs ≤ x.natAbs + y.natAbs := Int.natAbs_add_le x y
  rw [Nat.pow_succ]
  omega
theorem Bd.sub {k : Nat} {x y : Int} (h : Bd k x) (i : Bd k y) : Bd (k + 1) (x - y) := by
  unfold Bd at *
  have : (x - y).natAbs ≤ x.natAbs + y.natAbs := by omega
  rw [Nat.pow_succ]
  omega
theorem Bd.le {k : Nat} {x y : Int} (h : Bd k y) (l : x.natAbs ≤ y.natAbs) : Bd k x := Nat.lt_of_le_of_lt l h
theorem Bd.ok {j k : Nat} {x y : Int} (h : Bd j x) (i : Bd k y) (hj : j ≤ 400000 := by decide) (hk : k ≤ 400000 := by decide) : mulOk x y = true := mulOk_of (h.mono hj) (i.mono hk)
end Lad
namespace K01
open PySem L2 Lad
/-- the script stands at 0, a pool at p -/
def G (sc : List Val) (h : Hea) (p : Nat) : Prop := h[0]? = some (.fro sc) ∧ PoolAt h p ∧ 0 < p
theorem G.app {sc : List Val} {h t : Hea} {p : Nat} (g : G sc h p) : G sc (h ++ t) p := by
  obtain ⟨g1, ⟨a, b, e, r⟩, g3⟩ := g
  exact ⟨at_app g1, ⟨a, b, at_app e, r⟩, g3⟩
theorem num {sc : List Val} {h : Hea} {p : Nat} (g : G sc h p) : ∃ (r : Int) (h' : Hea), Bd 100 r ∧ G sc h' p ∧ c__law_number [.ref p] h = .ok (.int r) h' := by
  obtain ⟨g1, g2, g3⟩ := g
  obtain ⟨r, o, t, hr, P, e⟩ := number_ok g2
  refine ⟨r, _, ?_, ⟨?_, P, g3⟩, e⟩
  · have : (10 : Nat) ^ 30 < 2 ^ 100 := by decide
    unfold Bd
    omega
  · have l0 : 0 < h.length := lt_of_at g1
    rw [List.getElem?_append_left (by simpa using l0), List.getElem?_set_ne (by omega)]
    exact g1
theorem gcd2 (p q : Int) : ¬ Int.gcd (p * 2) (q * 2) = 1 := by
  rw [Int.gcd_mul_right]
  intro h
  have h' : Int.gcd p q * 2 = 1 := h
  omega
theorem isf_lst {h : Hea} {n : Nat} {xs : List Val} (e : h[n]? = some (.lst xs)) : c_is_fraction [.ref n] h = .ok (.bl false) h := by
  unfold c_is_fraction runB b_is_fraction
  simp [startE, oIsi, tyK, isTB, e]
  exact fin_flat rfl
theorem isi_true (h : Hea) : c_is_integer [.bl true, .int 0, .int 5] h = .ok (.bl false) h := by
  unfold c_is_integer runB b_is_integer c_is_whole runB b_is_whole
  simp [startE, oIsi, tyK, isTB, fin_flat (show (Val.bl false).flat = true from rfl)]
theorem eq_rep (h : Hea) (b : Bool) : ∃ s, gReprB h [.bl b] = some (.str s) ∧ eqB h (.str s) (.str s) = some true := by
  cases b
  · refine ⟨_, rfl, ?_⟩
    unfold eqB
    simp only [toD]
    decide +kernel
  · refine ⟨_, rfl, ?_⟩
    unfold eqB
    simp only [toD]
    decide +kernel
theorem eq_ref2 {h : Hea} {i j : Nat} (h1 : lstAt h i = some [.str "0", .bl true]) (h2 : lstAt h j = some [.str "0", .bl true]) : eqB h (.ref i) (.ref j) = some true := by
  unfold eqB
  simp only [toD, h1, h2, mapO]
  decide +kernel
theorem self_iff {a b : Int} (hb : b ≠ 0) : (0 < b ∧ Int.gcd a b = 1) ↔ (fp a b = a ∧ fq a b = b) := by
  constructor
  · rintro ⟨h1, h2⟩
    have es : sg a b = 1 := by unfold sg; rw [if_pos h1, h2]; rfl
    unfold fp fq
    rw [es]
    exact ⟨Int.fdiv_one a, Int.fdiv_one b⟩
  · rintro ⟨h1, h2⟩
    have f := (fr_ok (o := a) hb).1
    have g1 := f.pos
    have g2 := f.cop
    rw [h1, h2] at g2
    rw [h2] at g1
    exact ⟨g1, g2⟩
theorem add_eq {a b c d p q r s P Q : Int} (e1 : p * b = a * q) (e2 : r * d = c * s) (e3 : P * (q * s) = (p * s + r * q) * Q) (hq : q * s ≠ 0) : P * (b * d) = (a * d + c * b) * Q := by
  apply Int.eq_of_mul_eq_mul_right hq
  grind
theorem sub_eq {a b c d p q r s P Q : Int} (e1 : p * b = a * q) (e2 : r * d = c * s) (e3 : P * (q * s) = (p * s - r * q) * Q) (hq : q * s ≠ 0) : P * (b * d) = (a * d - c * b) * Q := by
  apply Int.eq_of_mul_eq_mul_right hq
  grind
theorem mul_eq {a b c d p q r s P Q : Int} (e1 : p * b = a * q) (e2 : r * d = c * s) (e3 : P * (q * s) = (p * r) * Q) (hq : q * s ≠ 0) : P * (b * d) = (a * c) * Q := by
  apply Int.eq_of_mul_eq_mul_right hq
  grind
end K01
end
/-! ## P6 -/
section
set_option maxRecDepth 10000
set_option maxHeartbeats 2000000
namespace K01
open PySem L2 Lad
theorem turn_ok {sc : List Val} {h : Hea} {p : Nat} (g : G sc h p) (x1 x3 x4 x5 x6 x7 x8 x9 x10 : Option Val) :
    ∃ y4 y5 y6 y7 y8 y9 h', l_law_0 [some (.ref 0), x1, some (.ref p), x3, x4, x5, x6, x7, x8, x9, x10] h = .nx [some (.ref 0), x1, some (.ref p), x3, y4, y5, y6, y7, y8, y9, x10] h' ∧ G sc h' p := by
  obtain ⟨a, h1, ba, g1, e1⟩ := num g
  obtain ⟨b, h2, bb, g2, e2⟩ := num g1
  obtain ⟨c, h3, bc, g3, e3⟩ := num g2
  obtain ⟨d, h4, bd, g4, e4⟩ := num g3
  obtain ⟨b', b0, bb', eb⟩ : ∃ b' : Int, b' ≠ 0 ∧ Bd 100 b' ∧ b' = if b = 0 then 7 else b := by
    by_cases hz : b = 0
    · exact ⟨7, by decide, by unfold Bd; decide, by rw [if_pos hz]⟩
    · exact ⟨b, hz, bb, by rw [if_neg hz]⟩
  obtain ⟨d', d0, bd', ed⟩ : ∃ d' : Int, d' ≠ 0 ∧ Bd 100 d' ∧ d' = if d = 0 then -4 else d := by
    by_cases hz : d = 0
    · exact ⟨-4, by decide, by unfold Bd; decide, by rw [if_pos hz]⟩
    · exact ⟨d, hz, bd, by rw [if_neg hz]⟩
  have f1 := frac_ok h4 (o := a) b0 (bb'.mono (by decide))
  have f2 := frac_ok h4 (o := c) d0 (bd'.mono (by decide))
  have ok1 := (fr_ok (o := a) b0).1
  have ok2 := (fr_ok (o := c) d0).1
  have si := self_iff (a := a) b0
  generalize fp a b' = p1 at *
  generalize fq a b' = q1 at *
  generalize fp c d' = p2 at *
  generalize fq c d' = q2 at *
  have bp1 : Bd 100 p1 := ba.le ok1.lp
  have bq1 : Bd 100 q1 := bb'.le ok1.lq
  have bp2 : Bd 100 p2 := bc.le ok2.lp
  have bq2 : Bd 100 q2 := bd'.le ok2.lq
  have q0 : q1 * q2 ≠ 0 := Int.mul_ne_zero (by have := ok1.pos; omega) (by have := ok2.pos; omega)
  have bqq : Bd 200 (q1 * q2) := bq1.mul bq2
  have i1 := is_ok h4 ok1.pos (bq1.mono (by decide)) (bp1.mono (by decide)) (ba.mono (by decide)) (bb'.mono (by decide)) ok1.cop ok1.eq
  have i2 := is_ok h4 ok2.pos (bq2.mono (by decide)) (bp2.mono (by decide)) (bc.mono (by decide)) (bd'.mono (by decide)) ok2.cop ok2.eq
  obtain ⟨h5, hh5⟩ : ∃ h5, h5 = h4 ++ [Ob.lst [.str "0", .bl true]] ++ [Ob.lst [.str "0", .bl true]] := ⟨_, rfl⟩
  have rf := refused_ok h4 a
  have er : eqB h5 (.ref h4.length) (.ref (h4.length + 1)) = some true := eq_ref2 (by rw [hh5]; simp [lstAt]) (by rw [hh5]; simp [lstAt])
  have bn : Bd 201 (p1 * q2 + p2 * q1) := (bp1.mul bq2).add (bp2.mul bq1)
  have bm : Bd 201 (p1 * q2 - p2 * q1) := (bp1.mul bq2).sub (bp2.mul bq1)
  have br : Bd 200 (p1 * p2) := bp1.mul bp2
  have bbd : Bd 200 (b' * d') := bb'.mul bd'
  have ad := added_ok h5 p1 q1 p2 q2 (bp1.ok bq2) (bp2.ok bq1) (bq1.ok bq2) q0 (bqq.mono (by decide))
  have le := less_ok h5 p1 q1 p2 q2 (bp1.ok bq2) (bp2.ok bq1) (bq1.ok bq2) q0 (bqq.mono (by decide))
  have mu := mul_ok h5 p1 q1 p2 q2 (bp1.ok bp2) (bq1.ok bq2) q0 (bqq.mono (by decide))
  have oa := (fr_ok (o := p1 * q2 + p2 * q1) q0).1
  have ol := (fr_ok (o := p1 * q2 - p2 * q1) q0).1
  have om := (fr_ok (o := p1 * p2) q0).1
  have ia := is_ok h5 oa.pos ((bqq.le oa.lq).mono (by decide)) ((bn.le oa.lp).mono (by decide)) ((((ba.mul bd').add (bc.mul bb'))).mono (by decide)) (bbd.mono (by decide)) oa.cop (add_eq ok1.eq ok2.eq oa.eq q0)
  have il := is_ok h5 ol.pos ((bqq.le ol.lq).mono (by decide)) ((bm.le ol.lp).mono (by decide)) ((((ba.mul bd').sub (bc.mul bb'))).mono (by decide)) (bbd.mono (by decide)) ol.cop (sub_eq ok1.eq ok2.eq ol.eq q0)
  have im := is_ok h5 om.pos ((bqq.le om.lq).mono (by decide)) ((br.le om.lp).mono (by decide)) ((ba.mul bc).mono (by decide)) (bbd.mono (by decide)) om.cop (mul_eq ok1.eq ok2.eq om.eq q0)
  have ab := above_ok h5 p1 q1 p2 q2 (bp1.ok bq2) (bp2.ok bq1)
  have ab1 := above_ok h5 p1 q1 p1 q1 (bp1.ok bq1) (bp1.ok bq1)
  obtain ⟨s, es1, es2⟩ := eq_rep h5 (decide (p2 * q1 < p1 * q2))
  have m2 : mulOk p1 2 = true := mulOk_r (by decide)
  have m3 : mulOk q1 2 = true := mulOk_r (by decide)
  have fr1 := isf_ok h5 p1 q1 (bq1.mono (by decide))
  have fr2 := isf_ok h5 (p1 * 2) (q1 * 2) ((bq1.mul (show Bd 2 2 by unfold Bd; decide)).mono (by decide))
  have fr3 := isf_ok h5 p1 (-q1) (by have := bq1.mono (k := 2000) (by decide); unfold Bd at this; omega)
  obtain ⟨h6, hh6⟩ : ∃ h6, h6 = h5 ++ [Ob.lst [.int p1, .int q1]] := ⟨_, rfl⟩
  have fr4 := isf_lst (h := h6) (n := h5.length) (xs := [.int p1, .int q1]) (by rw [hh6]; simp)
  have fr5 := isf_ok h6 a b' (bb'.mono (by decide))
  have g6 : G sc h6 p := by rw [hh6, hh5]; exact ((g4.app).app).app
  refine ⟨some (.int a), some (.int b'), some (.int c), some (.int d'), some (.tup [.int p1, .int q1]), some (.tup [.int p2, .int q2]), h6, ?_, g6⟩
  unfold l_law_0
  refine seq_asg (ds := [.int a, .int b, .int c, .int d]) (h1 := h4) ?_ rfl ?_
  · simp [e1, e2, e3, e4]
  refine seq_par (ds := [.int b', .int d']) (h1 := h4) ?_ rfl ?_
  · rw [eb, ed]
    by_cases hz : b = 0 <;> by_cases hy : d = 0 <;> simp [hz, hy]
  refine seq_par (ds := [.tup [.int p1, .int q1], .tup [.int p2, .int q2]]) (h1 := h4) ?_ rfl ?_
  · simp [f1, f2]
  refine seq_if (h1 := h4) ?_ ?_
  · simp [i1, i2]
  refine seq_if (h1 := h5) ?_ ?_
  · simp [rf]
    simp only [List.append_assoc, List.cons_append, List.nil_append] at hh5
    rw [← hh5, er]
    rfl
  refine seq_if (h1 := h5) ?_ ?_
  · simp [ad, ba.ok bd', bc.ok bb', bb'.ok bd', ia]
  refine seq_if (h1 := h5) ?_ ?_
  · simp [le, ba.ok bd', bc.ok bb', bb'.ok bd', il]
  refine seq_if (h1 := h5) ?_ ?_
  · simp [mu, ba.ok bc, bb'.ok bd', im]
  refine seq_if (h1 := h5) ?_ ?_
  · simp [ab, bp1.ok bq2, bp2.ok bq1, es1, es2]
  refine seq_if (h1 := h5) ?_ ?_
  · simp [ab1]
  refine seq_if (h1 := h5) ?_ ?_
  · simp [fr1, fr2, m2, m3, gcd2, ok1.pos, ok1.cop]
  refine seq_if (h1 := h6) ?_ ?_
  · have : ¬ q1 < 0 := by have := ok1.pos; omega
    simp [fr3, this, lOf, ← hh6, fr4]
  refine seq_if (h1 := h6) ?_ ?_
  · simp [isi_ok]
    omega
  refine seq_if (h1 := h6) ?_ ?_
  · simp [fr5, si]
  refine seq_if (h1 := h6) ?_ ?_
  · simp [isi_ok]
  refine if_no ?_
  have : ¬ a + 1 ≤ a := by omega
  simp [isi_ok, this, isi_true]
end K01
end
/-! ## P7 -/
section
set_option maxRecDepth 10000
set_option maxHeartbeats 400000
namespace K01
open PySem L2 Lad
def odd1 : List Val := [.non, .int 5, .tup [], .tup [.int 1], .tup [.int 1, .int 0], .tup [.int 0, .int 2], .tup [.int 1, .bl true], .tup [.bl true, .int 1], .tup [.int 1, .int 2, .int 3], .str "12", .tup [.str "1", .int 2]]
def odd2 : List Val := [.non, .bl false, .str "1", .tup [.int 1]]
theorem fb (h : Hea) : fin h (.bl false) h = .ok (.bl false) h := fin_flat rfl
theorem ft (h : Hea) : fin h (.bl true) h = .ok (.bl true) h := fin_flat rfl
theorem whole_bl (h : Hea) (b : Bool) : c_is_whole [.bl b] h = .ok (.bl false) h := by
  unfold c_is_whole runB b_is_whole
  simp [startE, oIsi, tyK, isTB, fb]
theorem whole_str (h : Hea) (b : Str) : c_is_whole [.str b] h = .ok (.bl false) h := by
  unfold c_is_whole runB b_is_whole
  simp [startE, oIsi, tyK, isTB, fb]
theorem whole_tup (h : Hea) (b : List Val) : c_is_whole [.tup b] h = .ok (.bl false) h := by
  unfold c_is_whole runB b_is_whole
  simp [startE, oIsi, tyK, isTB, fb]
theorem whole_non (h : Hea) : c_is_whole [.non] h = .ok (.bl false) h := by
  unfold c_is_whole runB b_is_whole
  simp [startE, oIsi, tyK, isTB, fb]
theorem isf_odd (h : Hea) : ∀ v ∈ odd1, c_is_fraction [v] h = .ok (.bl false) h := by
  intro v hv
  unfold odd1 at hv
  simp only [List.mem_cons, List.not_mem_nil, or_false] at hv
  rcases hv with rfl | rfl | rfl | rfl | rfl | rfl | rfl | rfl | rfl | rfl | rfl
  · unfold c_is_fraction runB b_is_fraction
    simp [startE, oIsi, tyK, isTB, lComp, iSeq, srcFix, compG, wipeE, whole_int, whole_bl, whole_str, gAll, bls?, fb]
  · unfold c_is_fraction runB b_is_fraction
    simp [startE, oIsi, tyK, isTB, lComp, iSeq, srcFix, compG, wipeE, whole_int, whole_bl, whole_str, gAll, bls?, fb]
  · unfold c_is_fraction runB b_is_fraction
    simp [startE, oIsi, tyK, isTB, lComp, iSeq, srcFix, compG, wipeE, whole_int, whole_bl, whole_str, gAll, bls?, fb]
  · unfold c_is_fraction runB b_is_fraction
    simp [startE, oIsi, tyK, isTB, lComp, iSeq, srcFix, compG, wipeE, whole_int, whole_bl, whole_str, gAll, bls?, fb]
  · exact (isf_ok h 1 0 (by decide)).trans rfl
  · exact (isf_ok h 0 2 (by decide)).trans rfl
  · unfold c_is_fraction runB b_is_fraction
    simp [startE, oIsi, tyK, isTB, lComp, iSeq, srcFix, compG, wipeE, whole_int, whole_bl, whole_str, gAll, bls?, fb]
  · unfold c_is_fraction runB b_is_fraction
    simp [startE, oIsi, tyK, isTB, lComp, iSeq, srcFix, compG, wipeE, whole_int, whole_bl, whole_str, gAll, bls?, fb]
  · unfold c_is_fraction runB b_is_fraction
    simp [startE, oIsi, tyK, isTB, lComp, iSeq, srcFix, compG, wipeE, whole_int, whole_bl, whole_str, gAll, bls?, fb]
  · unfold c_is_fraction runB b_is_fraction
    simp [startE, oIsi, tyK, isTB, lComp, iSeq, srcFix, compG, wipeE, whole_int, whole_bl, whole_str, gAll, bls?, fb]
  · unfold c_is_fraction runB b_is_fraction
    simp [startE, oIsi, tyK, isTB, lComp, iSeq, srcFix, compG, wipeE, whole_int, whole_bl, whole_str, gAll, bls?, fb]
theorem isi_odd (h : Hea) : ∀ v ∈ odd2, c_is_integer [v, .int (-5), .int 5] h = .ok (.bl false) h := by
  intro v hv
  unfold odd2 at hv
  simp only [List.mem_cons, List.not_mem_nil, or_false] at hv
  rcases hv with rfl | rfl | rfl | rfl
  all_goals
    unfold c_is_integer runB b_is_integer
    simp [startE, whole_non, whole_bl, whole_str, whole_tup, fb]
/-- the shape of the frame -/
def Sh (sc : List Val) (e : En) (h : Hea) : Prop := ∃ x1 x2 x3 x4 x5 x6 x7 x8 x9 x10, e = [some (.ref 0), x1, x2, x3, x4, x5, x6, x7, x8, x9, x10] ∧ h[0]? = some (.fro sc)
def Sp (sc : List Val) (p : Nat) (e : En) (h : Hea) : Prop := ∃ x1 x3 x4 x5 x6 x7 x8 x9 x10, e = [some (.ref 0), x1, some (.ref p), x3, x4, x5, x6, x7, x8, x9, x10] ∧ G sc h p
theorem loop0 {sc : List Val} {q : Nat} {h : Hea} {e : En} (i : Sp sc q e h) : ∃ e' h', forG (srcFix (rangeV 0 6)).item (gN 3) l_law_0 (srcFix (rangeV 0 6)).fuel 0 e h = .nx e' h' ∧ Sp sc q e' h' := by
  refine for_all ?_ e h i
  intro x _ e h' hh
  obtain ⟨x1, x3, x4, x5, x6, x7, x8, x9, x10, ee, g⟩ := hh
  subst ee
  obtain ⟨y4, y5, y6, y7, y8, y9, h2, et, g2⟩ := turn_ok g x1 (some x) x4 x5 x6 x7 x8 x9 x10
  exact ⟨[some (.ref 0), x1, some (.ref q), some x, x4, x5, x6, x7, x8, x9, x10], _, h2, rfl, et, x1, some x, y4, y5, y6, y7, y8, y9, x10, rfl, g2⟩
def Sq (y1 y2 y3 y4 y5 y6 y7 y8 y9 : Option Val) (h1 : Hea) (e : En) (h : Hea) : Prop := (∃ y10, e = [some (.ref 0), y1, y2, y3, y4, y5, y6, y7, y8, y9, y10]) ∧ h = h1
theorem loop1 {y1 y2 y3 y4 y5 y6 y7 y8 y9 : Option Val} {h1 h : Hea} {e : En} (i : Sq y1 y2 y3 y4 y5 y6 y7 y8 y9 h1 e h) : ∃ e' h', forG (srcFix odd1).item (gN 10) l_law_1 (srcFix odd1).fuel 0 e h = .nx e' h' ∧ Sq y1 y2 y3 y4 y5 y6 y7 y8 y9 h1 e' h' := by
  refine for_all ?_ e h i
  intro x hx e h' hh
  obtain ⟨⟨z, ee⟩, eh⟩ := hh
  subst ee eh
  refine ⟨[some (.ref 0), y1, y2, y3, y4, y5, y6, y7, y8, y9, some x], _, h', rfl, ?_, ⟨some x, rfl⟩, rfl⟩
  unfold l_law_1
  exact if_no (by simp [isf_odd h' x hx])
theorem loop2 {y1 y2 y3 y4 y5 y6 y7 y8 y9 : Option Val} {h1 h : Hea} {e : En} (i : Sq y1 y2 y3 y4 y5 y6 y7 y8 y9 h1 e h) : ∃ e' h', forG (srcFix odd2).item (gN 10) l_law_2 (srcFix odd2).fuel 0 e h = .nx e' h' ∧ Sq y1 y2 y3 y4 y5 y6 y7 y8 y9 h1 e' h' := by
  refine for_all ?_ e h i
  intro x hx e h' hh
  obtain ⟨⟨z, ee⟩, eh⟩ := hh
  subst ee eh
  refine ⟨[some (.ref 0), y1, y2, y3, y4, y5, y6, y7, y8, y9, some x], _, h', rfl, ?_, ⟨some x, rfl⟩, rfl⟩
  unfold l_law_2
  exact if_no (by simp [isi_odd h' x hx])
theorem src0 (e : En) (h : Hea) : iRng1V (aCons (eC (.int 6)) aNil) e h = .ok (srcFix (rangeV 0 6)) h := rfl
theorem round_ok {ns : List Int} {k : Nat} (hk : k < 64) {h : Hea} {x2 x3 x4 x5 x6 x7 x8 x9 x10 : Option Val} (e0 : h[0]? = some (.fro (ns.map Val.int))) :
    ∃ e' h', l_law_3 [some (.ref 0), some (.int k), x2, x3, x4, x5, x6, x7, x8, x9, x10] h = .nx e' h' ∧ Sh (ns.map Val.int) e' h' := by
  obtain ⟨a, b, a0, b0, b1, ep⟩ := pool_ok e0 hk
  have l0 : 0 < h.length := lt_of_at e0
  have g0 : G (ns.map Val.int) (h ++ [.lst [.int a, .int b]]) h.length := ⟨at_app e0, ⟨a, b, by simp, a0, b0, b1⟩, l0⟩
  have i0 : Sp (ns.map Val.int) h.length [some (.ref 0), some (.int k), some (.ref h.length), x3, x4, x5, x6, x7, x8, x9, x10] (h ++ [.lst [.int a, .int b]]) := ⟨_, _, _, _, _, _, _, _, _, rfl, g0⟩
  have hp : eCall c__law_pool (aCons (eVar 0) (aCons (eVar 1) aNil)) [some (.ref 0), some (.int k), x2, x3, x4, x5, x6, x7, x8, x9, x10] h = .ok (.ref h.length) (h ++ [.lst [.int a, .int b]]) := by
    generalize (k : Int) = kk at *
    simp [ep]
  obtain ⟨e1, h1, r1, i1⟩ := loop0 i0
  obtain ⟨y1, y3, y4, y5, y6, y7, y8, y9, y10, ee, g1⟩ := i1
  obtain ⟨e2, h2, r2, i2⟩ := loop1 (show Sq y1 (some (.ref h.length)) y3 y4 y5 y6 y7 y8 y9 h1 e1 h1 from ⟨⟨y10, ee⟩, rfl⟩)
  obtain ⟨e3, h3, r3, i3⟩ := loop2 i2
  obtain ⟨⟨z, ee3⟩, eh⟩ := i3
  refine ⟨e3, h3, ?_, y1, some (.ref h.length), y3, y4, y5, y6, y7, y8, y9, z, ee3, by rw [eh]; exact g1.1⟩
  unfold l_law_3
  refine seq_set hp ?_
  refine seq_for (src0 _ _) r1 ?_
  refine seq_for (s := srcFix odd1) (h1 := h1) rfl r2 ?_
  exact for_ (s := srcFix odd2) (h1 := h2) rfl r3
theorem plain : Plain := by
  intro ns hl
  have hr : ∃ z : Int, z < 64 ∧ 0 ≤ z ∧ eCB gMax2 (aCons (eC (.int 1)) (aCons (eCB gMin2 (aCons (eIt gLen (eVar 0)) (aCons (eC (.int 4)) aNil))) aNil)) (startE 11 [.ref 0]) [.fro (ns.map Val.int)] = .ok (.int z) [.fro (ns.map Val.int)] := by
    have e0 : eIt gLen (eVar 0) (startE 11 [.ref 0]) [.fro (ns.map Val.int)] = .ok (.int ns.length) [.fro (ns.map Val.int)] := by simp [startE, lstAt]
    have hz : (ns.length : Int) < 64 := by omega
    have hz0 : (0 : Int) ≤ ns.length := by omega
    generalize (ns.length : Int) = m at *
    by_cases h4 : 4 < m
    · exact ⟨4, by decide, by decide, by simp [e0, gMin2, gMax2, h4, -ap_it]⟩
    · by_cases h1 : 1 < m
      · exact ⟨m, hz, hz0, by simp [e0, gMin2, gMax2, h4, h1, -ap_it]⟩
      · exact ⟨1, by decide, by decide, by simp [e0, gMin2, gMax2, h4, h1, -ap_it]⟩
  obtain ⟨z, hz, hz0, ez⟩ := hr
  have er : iRng1V (aCons (eCB gMax2 (aCons (eC (.int 1)) (aCons (eCB gMin2 (aCons (eIt gLen (eVar 0)) (aCons (eC (.int 4)) aNil))) aNil))) aNil) (startE 11 [.ref 0]) [.fro (ns.map Val.int)] = .ok (srcFix (rangeV 0 z.toNat)) [.fro (ns.map Val.int)] := by
    have ro : rngOk z = true := decide_eq_true (by omega)
    simp only [iRng1V, ap_acons, ez, ap_bindOk, ap_anil, ro, if_true]
  obtain ⟨e1, h1, r1, i1⟩ := for_all (xs := rangeV 0 z.toNat) (b := gN 1) (body := l_law_3) (I := Sh (ns.map Val.int)) (fun x hx e h' ⟨x1, x2, x3, x4, x5, x6, x7, x8, x9, x10, ee, e0⟩ => by
    subst ee
    unfold rangeV at hx
    simp only [List.mem_map, List.mem_range] at hx
    obtain ⟨k, hk, rfl⟩ := hx
    rw [Int.zero_add]
    obtain ⟨e2, h2, a1, a2⟩ := round_ok (k := k) (by omega) e0
    exact ⟨[some (.ref 0), some (.int k), x2, x3, x4, x5, x6, x7, x8, x9, x10], e2, h2, rfl, a1, a2⟩) (startE 11 [.ref 0]) [.fro (ns.map Val.int)] ⟨none, none, none, none, none, none, none, none, none, none, rfl, rfl⟩
  have rt : b_law (startE 11 [.ref 0]) [.fro (ns.map Val.int)] = .rt (.bl true) h1 := by
    unfold b_law
    exact seq_for er r1 (ret_ rfl)
  have rr : c_law [.ref 0] [.fro (ns.map Val.int)] = fin [.fro (ns.map Val.int)] (.bl true) h1 := run_rt rfl rt
  rw [rr]
  unfold fin
  split
  · exact ⟨_, rfl⟩
  · exact ⟨_, rfl⟩
end K01
end
theorem PySem.Challenge.cw_liftedladders_k01_fractions_holds : PySem.Challenge.rw_liftedladders_k01_fractions.Holds :=
  K01.holds_of K01.plain
