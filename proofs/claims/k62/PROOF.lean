import PyProof.Rows.All
import Wide.All
import OpenK.AllK
import Wide.FinOn
import HandS.ForMost
import HandS.ForExc
import HandS.Wide
import HandS.Style
import HandS.Flow
import HandS.Deep
import HandS.TupLe
import HandS.TupAny
import HandS.IsInst
import HandS.Star
import HandS.RaiseMore
import HandS.WordsExc
import KE.KExcSuper
import HandS.ExcField
import HandS.ExcIs
import KE.KExcIs
import HandS.HeadHook2
import HandS.Head0
import HandS.Head1
import HandS.Head2
import HandS.HeadEnd
import HandS.Iter
import HandS.Zip
import HandS.List
import KE.GoesEnum
import KE.GoesMore
import KE.KCallOwn
import HandS.SlotsOwn
import HandS.Dict
import PySem.Challenge.RW_liftedladders_k62_chances_refused
set_option Elab.async false
set_option linter.all false
/-! ## LadCore -/
section
set_option maxRecDepth 100000
set_option maxHeartbeats 1000000
/-! Lad: an evaluator of Python over plain data, and its rules over the hand layer. -/
namespace Lad
open PySem L2
/-! ### data -/
/-- lst, dic, obj: a list, a dict, an instance that nothing changes any more; ref: one of the evaluator's heap -/
inductive Val where
  | non | bl (b : Bool) | int (i : Int) | str (s : Str) | tup (xs : List Val) | lst (xs : List Val) | dic (t : Bool) (ks vs : List Val) | obj (c : Nat) (ns : List Nat) (vs : List Val) | ref (i : Nat) | exn (c : Nat) (d : Val)
inductive Ob where
  | lst (xs : List Val) | fro (ns : List Int) | dcK (kvs : List (Val × Val)) | dcT (kvs : List (Val × Val)) | ins (c : Nat) (fs : List (Nat × Val))
abbrev Hea := List Ob
abbrev En := List (Option Val)
inductive Res (α : Type) where
  | ok (a : α) (h : Hea) | exc (c : Nat) (d : Val) (h : Hea) | stuck
def Res.bind {α β : Type} (r : Res α) (k : α → Hea → Res β) : Res β := match r with
  | .ok a h => k a h
  | .exc c d h => .exc c d h
  | .stuck => .stuck
/-- the end of a statement -/
inductive SRes where
  | nx (e : En) (h : Hea) | rt (v : Val) (h : Hea) | bk (e : En) (h : Hea) | ct (e : En) (h : Hea) | exc (c : Nat) (d : Val) (e : En) (h : Hea) | stuck
/-- what the program's top has made: the written part, the classes' addresses, the names of attributes, the field of an exception class -/
structure Sy where
  K : PySem.W.Frag
  ca : Nat → Addr
  nm : Nat → Str
  fld : Nat → Str
  /-- the error that is handled: where it is, its class, its dict -/
  ex : Option (Addr × Nat × Addr)
/-! ### what data stand for -/
/-- what the evaluator's heap holds: by numbers; hidden (being made) -/
structure Own where
  nm : List Addr
  hd : List Addr
def Own.add (ρ : Own) (p : Addr) : Own := ⟨ρ.nm ++ [p], ρ.hd⟩
def Own.hide (ρ : Own) (p : Addr) : Own := ⟨ρ.nm, p :: ρ.hd⟩
def Off (ρ : Own) (a : Addr) : Prop := ∀ i : Nat, ρ.nm[i]? ≠ some a
/-- neither held nor being made -/
def Fz (ρ : Own) (a : Addr) : Prop := Off ρ a ∧ a ∉ ρ.hd
def keyVal : Key → Val
  | .inl i => .int i
  | .inr s => .str s
abbrev kvK : Key → Val := keyVal
abbrev kvT : List Key → Val := fun k => Val.tup (k.map keyVal)
mutual
inductive Rep (S : Sy) (ρ : Own) (H : Hp) : Val → V → Prop where
  | non : Rep S ρ H .non .non
  | bl (b : Bool) : Rep S ρ H (.bl b) (.bl b)
  | int (i : Int) : Rep S ρ H (.int i) (.int i)
  | str (s : Str) : Rep S ρ H (.str s) (.str s)
  | tup {a : Addr} {ds : List Val} {vs : List V} : SqT S.K H a vs → Reps S ρ H ds vs → Rep S ρ H (.tup ds) (.ref a)
  | lst {a : Addr} {ds : List Val} {vs : List V} : Fz ρ a → H a = some (.lst vs) → Reps S ρ H ds vs → Rep S ρ H (.lst ds) (.ref a)
  | dicK {a : Addr} {ds : List Val} {ps : List (Key × V)} {ks : List Val} {vs : List V} : Fz ρ a → H a = some (.dK ps) → ks = ps.map (fun p => kvK p.1) → vs = ps.map (·.2) → Reps S ρ H ds vs → Rep S ρ H (.dic false ks ds) (.ref a)
  | dicT {a : Addr} {ds : List Val} {ps : List (List Key × V)} {ks : List Val} {vs : List V} : Fz ρ a → H a = some (.dT ps) → ks = ps.map (fun p => kvT p.1) → vs = ps.map (·.2) → Reps S ρ H ds vs → Rep S ρ H (.dic true ks ds) (.ref a)
  | obj {a dx : Addr} {c : Nat} {ns : List Nat} {ds : List Val} {ps : List (Str × V)} {vs : List V} : Fz ρ a → H a = some (.ins (S.ca c) dx ps) → ps.map (·.1) = ns.map S.nm → vs = ps.map (·.2) → Reps S ρ H ds vs → Rep S ρ H (.obj c ns ds) (.ref a)
  | ref {i : Nat} {a : Addr} : ρ.nm[i]? = some a → Rep S ρ H (.ref i) (.ref a)
  | exn {c : Nat} {a dx : Addr} {d : Val} {v : V} : S.ex = some (a, c, dx) → H dx = some (.xd [(S.fld c, v)]) → Rep S ρ H d v → Rep S ρ H (.exn c d) (.ref a)
inductive Reps (S : Sy) (ρ : Own) (H : Hp) : List Val → List V → Prop where
  | nil : Reps S ρ H [] []
  | cons {d : Val} {v : V} {ds : List Val} {vs : List V} : Rep S ρ H d v → Reps S ρ H ds vs → Reps S ρ H (d :: ds) (v :: vs)
end
/-- tuples stay -/
def Kp (S : Sy) (H H' : Hp) : Prop := (∀ a xs, SqT S.K H a xs → SqT S.K H' a xs) ∧ ∀ a fs, H a = some (.xd fs) → H' a = some (.xd fs)
theorem Kp.rfl {S : Sy} {H : Hp} : Kp S H H := ⟨fun _ _ h => h, fun _ _ h => h⟩
theorem Kp.trans {S : Sy} {H H1 H2 : Hp} (a : Kp S H H1) (b : Kp S H1 H2) : Kp S H H2 := ⟨fun x xs h => b.1 x xs (a.1 x xs h), fun x xs h => b.2 x xs (a.2 x xs h)⟩
/-- ρ' goes on from ρ -/
def Sub (ρ ρ' : Own) : Prop := ∀ (i : Nat) (a : Addr), ρ.nm[i]? = some a → ρ'.nm[i]? = some a
theorem Sub.rfl {ρ : Own} : Sub ρ ρ := fun _ _ h => h
theorem Sub.trans {ρ ρ1 ρ2 : Own} (a : Sub ρ ρ1) (b : Sub ρ1 ρ2) : Sub ρ ρ2 := fun i x h => b i x (a i x h)
theorem Sub.app {ρ : Own} {p : Addr} : Sub ρ (ρ.add p) := fun i a h => by
  have hi := (List.getElem?_eq_some_iff.mp h).1
  show (ρ.nm ++ [p])[i]? = some a
  rw [List.getElem?_append_left hi]; exact h
/-- what stands for data goes on to do so -/
structure Mv (S : Sy) (ρ : Own) (H : Hp) (ρ' : Own) (H' : Hp) : Prop where
  sub : Sub ρ ρ'
  kp : Kp S H H'
  fz : ∀ a o, H a = some o → Fz ρ a → H' a = some o ∧ Fz ρ' a
theorem Mv.rfl {S : Sy} {ρ : Own} {H : Hp} : Mv S ρ H ρ H := ⟨.rfl, .rfl, fun _ _ e f => ⟨e, f⟩⟩
theorem Mv.trans {S : Sy} {ρ ρ1 ρ2 : Own} {H H1 H2 : Hp} (a : Mv S ρ H ρ1 H1) (b : Mv S ρ1 H1 ρ2 H2) : Mv S ρ H ρ2 H2 := ⟨a.sub.trans b.sub, a.kp.trans b.kp, fun x o e f => b.fz x o (a.fz x o e f).1 (a.fz x o e f).2⟩
theorem Rd.mv {S : Sy} {ρ ρ' : Own} {H H' : Hp} (m : Mv S ρ H ρ' H') {a : Addr} {o : HO} (f : Fz ρ a) (h : Rd H a o) : Rd H' a o := by
  rcases h with h | ⟨u, h⟩
  · exact .inl (m.fz a _ h f).1
  · exact .inr ⟨u, (m.fz a _ h f).1⟩
theorem Rd.there {H : Hp} {a : Addr} {o : HO} (h : Rd H a o) : ∃ u, H a = some u := by
  rcases h with h | ⟨u, h⟩ <;> exact ⟨_, h⟩
mutual
theorem Rep.mono {S : Sy} {ρ ρ' : Own} {H H' : Hp} (m : Mv S ρ H ρ' H') : ∀ {d : Val} {v : V}, Rep S ρ H d v → Rep S ρ' H' d v
  | _, _, .non => .non
  | _, _, .bl b => .bl b
  | _, _, .int i => .int i
  | _, _, .str z => .str z
  | _, _, .tup h r => .tup (m.kp.1 _ _ h) (Reps.mono m r)
  | _, _, .lst f h r => .lst (m.fz _ _ h f).2 (m.fz _ _ h f).1 (Reps.mono m r)
  | _, _, .dicK f h e1 e2 r => .dicK (m.fz _ _ h f).2 (m.fz _ _ h f).1 e1 e2 (Reps.mono m r)
  | _, _, .dicT f h e1 e2 r => .dicT (m.fz _ _ h f).2 (m.fz _ _ h f).1 e1 e2 (Reps.mono m r)
  | _, _, .obj f h e1 e2 r => .obj (m.fz _ _ h f).2 (m.fz _ _ h f).1 e1 e2 (Reps.mono m r)
  | _, _, .ref h => .ref (m.sub _ _ h)
  | _, _, .exn h1 h2 r => .exn h1 (m.kp.2 _ _ h2) (Rep.mono m r)
theorem Reps.mono {S : Sy} {ρ ρ' : Own} {H H' : Hp} (m : Mv S ρ H ρ' H') : ∀ {ds : List Val} {vs : List V}, Reps S ρ H ds vs → Reps S ρ' H' ds vs
  | _, _, .nil => .nil
  | _, _, .cons r t => .cons (Rep.mono m r) (Reps.mono m t)
end
theorem Reps.length {S : Sy} {ρ : Own} {H : Hp} : ∀ {ds : List Val} {vs : List V}, Reps S ρ H ds vs → ds.length = vs.length
  | _, _, .nil => rfl
  | _, _, .cons _ t => congrArg (· + 1) (Reps.length t)
theorem Reps.get {S : Sy} {ρ : Own} {H : Hp} : ∀ {ds : List Val} {vs : List V} {i : Nat} {d : Val}, Reps S ρ H ds vs → ds[i]? = some d → ∃ v, vs[i]? = some v ∧ Rep S ρ H d v
  | _, _, 0, _, .cons r _, e => by
    have e := Option.some.inj e
    subst e
    exact ⟨_, rfl, r⟩
  | _, _, i + 1, _, .cons _ t, e => Reps.get (i := i) t e
  | _, _, i, _, .nil, e => by simp at e
theorem Reps.get' {S : Sy} {ρ : Own} {H : Hp} : ∀ {ds : List Val} {vs : List V} {i : Nat} {v : V}, Reps S ρ H ds vs → vs[i]? = some v → ∃ d, ds[i]? = some d ∧ Rep S ρ H d v
  | _, _, 0, _, .cons r _, e => by
    have e := Option.some.inj e
    subst e
    exact ⟨_, rfl, r⟩
  | _, _, i + 1, _, .cons _ t, e => Reps.get' (i := i) t e
  | _, _, i, _, .nil, e => by simp at e
theorem Reps.app {S : Sy} {ρ : Own} {H : Hp} : ∀ {ds es : List Val} {vs us : List V}, Reps S ρ H ds vs → Reps S ρ H es us → Reps S ρ H (ds ++ es) (vs ++ us)
  | _, _, _, _, .nil, t => t
  | _, _, _, _, .cons r q, t => .cons r (Reps.app q t)
theorem Reps.one {S : Sy} {ρ : Own} {H : Hp} {d : Val} {v : V} (r : Rep S ρ H d v) : Reps S ρ H [d] [v] := .cons r .nil
theorem Reps.take {S : Sy} {ρ : Own} {H : Hp} : ∀ {ds : List Val} {vs : List V} (n : Nat), Reps S ρ H ds vs → Reps S ρ H (ds.take n) (vs.take n)
  | _, _, 0, _ => .nil
  | _, _, _ + 1, .nil => .nil
  | _, _, n + 1, .cons r t => .cons r (Reps.take n t)
theorem Reps.drop {S : Sy} {ρ : Own} {H : Hp} : ∀ {ds : List Val} {vs : List V} (n : Nat), Reps S ρ H ds vs → Reps S ρ H (ds.drop n) (vs.drop n)
  | _, _, 0, r => r
  | _, _, _ + 1, .nil => .nil
  | _, _, n + 1, .cons _ t => Reps.drop n t
theorem Reps.set {S : Sy} {ρ : Own} {H : Hp} {d : Val} {v : V} (r : Rep S ρ H d v) : ∀ {ds : List Val} {vs : List V} (n : Nat), Reps S ρ H ds vs → Reps S ρ H (ds.set n d) (vs.set n v)
  | _, _, _, .nil => .nil
  | _, _, 0, .cons _ t => .cons r t
  | _, _, n + 1, .cons q t => .cons q (Reps.set r n t)
theorem Reps.ints {S : Sy} {ρ : Own} {H : Hp} : ∀ {ns : List Int} {vs : List V}, Reps S ρ H (ns.map Val.int) vs → vs = ns.map V.int
  | [], _, .nil => rfl
  | n :: ns, _, .cons r t => by
    cases r
    rw [Reps.ints t]
    rfl
/-! ### objects -/
inductive KvR (S : Sy) (ρ : Own) (H : Hp) {κ : Type} (kd : κ → Val) : List (Val × Val) → List (κ × V) → Prop where
  | nil : KvR S ρ H kd [] []
  | cons {k : κ} {d : Val} {v : V} {ds : List (Val × Val)} {vs : List (κ × V)} : Rep S ρ H d v → KvR S ρ H kd ds vs → KvR S ρ H kd ((kd k, d) :: ds) ((k, v) :: vs)
theorem KvR.mono {S : Sy} {ρ ρ' : Own} {H H' : Hp} {κ : Type} {kd : κ → Val} (m : Mv S ρ H ρ' H') : ∀ {ds : List (Val × Val)} {vs : List (κ × V)}, KvR S ρ H kd ds vs → KvR S ρ' H' kd ds vs
  | _, _, .nil => .nil
  | _, _, .cons r t => .cons (r.mono m) (t.mono m)
inductive FsR (S : Sy) (ρ : Own) (H : Hp) : List (Nat × Val) → List (Str × V) → Prop where
  | nil : FsR S ρ H [] []
  | cons {n : Nat} {d : Val} {v : V} {ds : List (Nat × Val)} {vs : List (Str × V)} : Rep S ρ H d v → FsR S ρ H ds vs → FsR S ρ H ((n, d) :: ds) ((S.nm n, v) :: vs)
theorem FsR.mono {S : Sy} {ρ ρ' : Own} {H H' : Hp} (m : Mv S ρ H ρ' H') : ∀ {ds : List (Nat × Val)} {vs : List (Str × V)}, FsR S ρ H ds vs → FsR S ρ' H' ds vs
  | _, _, .nil => .nil
  | _, _, .cons r t => .cons (r.mono m) (t.mono m)
theorem reps_ints {S : Sy} {ρ : Own} {H : Hp} : ∀ ns : List Int, Reps S ρ H (ns.map Val.int) (ns.map V.int)
  | [] => .nil
  | n :: ns => .cons (.int n) (reps_ints ns)
inductive ObR (S : Sy) (ρ : Own) (H : Hp) : Ob → Addr → Prop where
  | lst {xs : List Val} {vs : List V} {a : Addr} : H a = some (.lst vs) → Reps S ρ H xs vs → ObR S ρ H (.lst xs) a
  | fro {ns : List Int} {a : Addr} {o : PySem.Obj} : H a = some (.frz o (.lst (ns.map V.int))) → ObR S ρ H (.fro ns) a
  | dcK {kvs : List (Val × Val)} {vs : List (Key × V)} {a : Addr} : H a = some (.dK vs) → KvR S ρ H kvK kvs vs → ObR S ρ H (.dcK kvs) a
  | dcT {kvs : List (Val × Val)} {vs : List (List Key × V)} {a : Addr} : H a = some (.dT vs) → KvR S ρ H kvT kvs vs → ObR S ρ H (.dcT kvs) a
  | ins {c : Nat} {fs : List (Nat × Val)} {vs : List (Str × V)} {a dx : Addr} : H a = some (.ins (S.ca c) dx vs) → FsR S ρ H fs vs → ObR S ρ H (.ins c fs) a
theorem ObR.there {S : Sy} {ρ : Own} {H : Hp} {o : Ob} {a : Addr} (r : ObR S ρ H o a) : ∃ u, H a = some u := by
  cases r <;> exact ⟨_, by assumption⟩
theorem ObR.mono {S : Sy} {ρ ρ' : Own} {H H' : Hp} (m : Mv S ρ H ρ' H') {o : Ob} {a : Addr} (e : H' a = H a) (r : ObR S ρ H o a) : ObR S ρ' H' o a := by
  cases r with
  | lst h q => exact .lst (e.trans h) (q.mono m)
  | fro h => exact .fro (e.trans h)
  | dcK h q => exact .dcK (e.trans h) (q.mono m)
  | dcT h q => exact .dcT (e.trans h) (q.mono m)
  | ins h q => exact .ins (e.trans h) (q.mono m)
/-- the heap is held -/
structure Rel (S : Sy) (ρ : Own) (h : Hea) (H : Hp) : Prop where
  len : h.length = ρ.nm.length
  inj : ∀ (i j : Nat) (a : Addr), ρ.nm[i]? = some a → ρ.nm[j]? = some a → i = j
  ob : ∀ (i : Nat) (o : Ob) (a : Addr), h[i]? = some o → ρ.nm[i]? = some a → ObR S ρ H o a
  hid : ∀ a, a ∈ ρ.hd → (∃ u, H a = some u) ∧ Off ρ a
theorem upd_some {H : Hp} {p a : Addr} {o u : HO} (e : H a = some u) : ∃ u, upd H p o a = some u := by
  unfold upd
  split
  · exact ⟨_, rfl⟩
  · exact ⟨_, e⟩
theorem Rel.at {S : Sy} {ρ : Own} {h : Hea} {H : Hp} (r : Rel S ρ h H) {i : Nat} {o : Ob} (e : h[i]? = some o) : ∃ a, ρ.nm[i]? = some a ∧ ObR S ρ H o a := by
  have hi := (List.getElem?_eq_some_iff.mp e).1
  rw [r.len] at hi
  exact ⟨_, List.getElem?_eq_getElem hi, r.ob i o _ e (List.getElem?_eq_getElem hi)⟩
theorem Kp.new {S : Sy} {H : Hp} {p : Addr} {o : HO} (n : H p = none) : Kp S H (upd H p o) := by
  refine ⟨fun a xs h => ?_, fun a fs h => by rw [upd_ne (ne_of_none h n)]; exact h⟩
  rcases h with (h | ⟨u, h⟩) | h
  · exact .inl (.inl (by rw [upd_ne (ne_of_none h n)]; exact h))
  · exact .inl (.inr ⟨u, by rw [upd_ne (ne_of_none h n)]; exact h⟩)
  · exact .inr h
/-- what may be changed: no tuple, nothing locked, no error's dict -/
def Ch : HO → Prop
  | .tup _ => False
  | .frz _ _ => False
  | .xd _ => False
  | _ => True
theorem Kp.put {S : Sy} {H : Hp} {p : Addr} {o u : HO} (e : H p = some u) (h1 : Ch u) : Kp S H (upd H p o) := by
  refine ⟨fun a xs h => ?_, fun a fs h => by rw [upd_ne (ne_of h e (by rintro rfl; exact h1))]; exact h⟩
  rcases h with (h | ⟨w, h⟩) | h
  · exact .inl (.inl (by rw [upd_ne (ne_of h e (by rintro rfl; exact h1))]; exact h))
  · exact .inl (.inr ⟨w, by rw [upd_ne (ne_of h e (by rintro rfl; exact h1))]; exact h⟩)
  · exact .inr h
theorem add_some {ρ : Own} {p a : Addr} {i : Nat} (h : (ρ.add p).nm[i]? = some a) : ρ.nm[i]? = some a ∨ a = p := by
  have h : (ρ.nm ++ [p])[i]? = some a := h
  by_cases hi : i < ρ.nm.length
  · rw [List.getElem?_append_left hi] at h
    exact .inl h
  · rw [List.getElem?_append_right (Nat.le_of_not_lt hi)] at h
    have := List.mem_of_getElem? h
    simp at this
    exact .inr this
theorem Fz.add {ρ : Own} {p a : Addr} (f : Fz ρ a) (n : a ≠ p) : Fz (ρ.add p) a := ⟨fun i z => by
  rcases add_some z with z | z
  · exact f.1 i z
  · exact n z, f.2⟩
theorem Mv.side {S : Sy} {ρ : Own} {H : Hp} {p : Addr} {o : HO} (n : H p = none) : Mv S ρ H ρ (upd H p o) := ⟨.rfl, .new n, fun a u e f => ⟨by rw [upd_ne (ne_of_none e n)]; exact e, f⟩⟩
theorem Mv.new {S : Sy} {ρ : Own} {H : Hp} {p : Addr} {o : HO} (n : H p = none) : Mv S ρ H (ρ.add p) (upd H p o) := ⟨.app, .new n, fun a u e f => ⟨by rw [upd_ne (ne_of_none e n)]; exact e, f.add (ne_of_none e n)⟩⟩
theorem Mv.put {S : Sy} {ρ : Own} {H : Hp} {i : Nat} {a : Addr} {u o : HO} (ea : ρ.nm[i]? = some a) (e : H a = some u) (h1 : Ch u) : Mv S ρ H ρ (upd H a o) := ⟨.rfl, .put e h1, fun b w q f => ⟨by
  have hb : b ≠ a := fun z => f.1 i (by rw [z]; exact ea)
  rw [upd_ne hb]; exact q, f⟩⟩
/-- a thing that is being made is changed -/
theorem Mv.hid {S : Sy} {ρ : Own} {H : Hp} {a : Addr} {u o : HO} (ea : a ∈ ρ.hd) (e : H a = some u) (h1 : Ch u) : Mv S ρ H ρ (upd H a o) := ⟨.rfl, .put e h1, fun b w q f => ⟨by
  have hb : b ≠ a := fun z => f.2 (by rw [z]; exact ea)
  rw [upd_ne hb]; exact q, f⟩⟩
theorem Rel.free {S : Sy} {ρ : Own} {h : Hea} {H : Hp} (r : Rel S ρ h H) {p : Addr} (n : H p = none) {i : Nat} (e : ρ.nm[i]? = some p) : False := by
  have hi := (List.getElem?_eq_some_iff.mp e).1
  rw [← r.len] at hi
  obtain ⟨u, q⟩ := (r.ob i _ p (List.getElem?_eq_getElem hi) e).there
  rw [n] at q; cases q
/-- a new thing that is not in the heap of the evaluator -/
theorem Rel.side {S : Sy} {ρ : Own} {h : Hea} {H : Hp} (r : Rel S ρ h H) {p : Addr} {o : HO} (n : H p = none) : Rel S ρ h (upd H p o) :=
  ⟨r.len, r.inj, fun i ob a e1 e2 => (r.ob i ob a e1 e2).mono (.side n) (upd_ne fun z => r.free n (z ▸ e2)), fun a m => let ⟨⟨_, e⟩, z⟩ := r.hid a m; ⟨upd_some e, z⟩⟩
theorem Rel.fz {S : Sy} {ρ : Own} {h : Hea} {H : Hp} (r : Rel S ρ h H) {p : Addr} (n : H p = none) : Fz ρ p := ⟨fun _ z => r.free n z, fun m => by
  obtain ⟨⟨u, e⟩, _⟩ := r.hid p m
  rw [n] at e; cases e⟩
theorem add_at {ρ : Own} {p : Addr} : (ρ.add p).nm[ρ.nm.length]? = some p := by show (ρ.nm ++ [p])[ρ.nm.length]? = some p; simp
theorem Rel.grow {S : Sy} {ρ : Own} {h : Hea} {H' : Hp} (hl : h.length = ρ.nm.length) (inj : ∀ (i j : Nat) (a : Addr), ρ.nm[i]? = some a → ρ.nm[j]? = some a → i = j) {p : Addr} {ob : Ob} (n : Off ρ p)
    (os : ∀ (i : Nat) (o : Ob) (a : Addr), h[i]? = some o → ρ.nm[i]? = some a → ObR S (ρ.add p) H' o a) (q : ObR S (ρ.add p) H' ob p) (hi : ∀ a, a ∈ ρ.hd → (∃ u, H' a = some u) ∧ Off ρ a) (hp : p ∉ ρ.hd) : Rel S (ρ.add p) (h ++ [ob]) H' := by
  have one : ∀ (i : Nat) (a : Addr), (ρ.add p).nm[i]? = some a → (i < ρ.nm.length ∧ ρ.nm[i]? = some a) ∨ (i = ρ.nm.length ∧ a = p) := by
    intro i a e
    have e : (ρ.nm ++ [p])[i]? = some a := e
    by_cases h1 : i < ρ.nm.length
    · rw [List.getElem?_append_left h1] at e
      exact .inl ⟨h1, e⟩
    · rw [List.getElem?_append_right (Nat.le_of_not_lt h1)] at e
      have e3 := (List.getElem?_eq_some_iff.mp e).1
      have e4 := (List.mem_of_getElem? e)
      simp at e3 e4
      exact .inr ⟨by omega, e4⟩
  refine ⟨by simp [hl, Own.add], fun i j a e1 e2 => ?_, fun i o' a e1 e2 => ?_, fun a m => ⟨(hi a m).1, (Fz.add (ρ := ⟨ρ.nm, []⟩) (p := p) ⟨(hi a m).2, by simp⟩ fun z => hp (z ▸ m)).1⟩⟩
  · rcases one i a e1 with ⟨_, w1⟩ | ⟨z1, w1⟩
    · rcases one j a e2 with ⟨_, w2⟩ | ⟨z2, w2⟩
      · exact inj i j a w1 w2
      · exact (n i (w2 ▸ w1)).elim
    · rcases one j a e2 with ⟨_, w2⟩ | ⟨z2, w2⟩
      · exact (n j (w1 ▸ w2)).elim
      · omega
  · rcases one i a e2 with ⟨z, w2⟩ | ⟨z, w2⟩
    · rw [List.getElem?_append_left (by omega)] at e1
      exact os i o' a e1 w2
    · subst z w2
      rw [List.getElem?_append_right (by omega)] at e1
      have e4 := (List.mem_of_getElem? e1)
      simp at e4
      subst e4
      exact q
/-- a new object -/
theorem Rel.new {S : Sy} {ρ : Own} {h : Hea} {H : Hp} (r : Rel S ρ h H) {p : Addr} {o : HO} {ob : Ob} (n : H p = none) (q : ObR S (ρ.add p) (upd H p o) ob p) : Rel S (ρ.add p) (h ++ [ob]) (upd H p o) :=
  Rel.grow r.len r.inj (fun i z => r.free n z) (fun i o' a e1 e2 => (r.ob i o' a e1 e2).mono (.new n) (upd_ne fun z => r.free n (z ▸ e2))) q (fun a m => let ⟨⟨_, e⟩, z⟩ := r.hid a m; ⟨upd_some e, z⟩) (r.fz n).2
/-- an object changed -/
theorem Rel.put {S : Sy} {ρ : Own} {h : Hea} {H : Hp} (r : Rel S ρ h H) {i : Nat} {a : Addr} {u o : HO} {ob : Ob} (e : ρ.nm[i]? = some a) (hu : H a = some u) (h1 : Ch u)
    (q : ObR S ρ (upd H a o) ob a) : Rel S ρ (h.set i ob) (upd H a o) := by
  refine ⟨by simp [r.len], r.inj, fun j o' b e1 e2 => ?_, fun a m => let ⟨⟨_, e⟩, z⟩ := r.hid a m; ⟨upd_some e, z⟩⟩
  by_cases hj : i = j
  · subst hj
    have hi := (List.getElem?_eq_some_iff.mp e).1
    rw [← r.len] at hi
    rw [List.getElem?_set_self hi] at e1
    cases e1
    rw [e] at e2; cases e2
    exact q
  · rw [List.getElem?_set_ne hj] at e1
    have nb : b ≠ a := fun z => hj (r.inj i j a e (z ▸ e2))
    exact (r.ob j o' b e1 e2).mono (.put e hu h1) (upd_ne nb)
/-! ### the values of names -/
inductive ER (S : Sy) (ρ : Own) (H : Hp) : En → St → Prop where
  | nil : ER S ρ H [] []
  | cons {d : Option Val} {v : Option V} {ds : En} {vs : St} : (∀ x, d = some x → ∃ y, v = some y ∧ Rep S ρ H x y) → ER S ρ H ds vs → ER S ρ H (d :: ds) (v :: vs)
theorem ER.mono {S : Sy} {ρ ρ' : Own} {H H' : Hp} (m : Mv S ρ H ρ' H') : ∀ {ds : En} {vs : St}, ER S ρ H ds vs → ER S ρ' H' ds vs
  | _, _, .nil => .nil
  | _, _, .cons r t => .cons (fun x e => let ⟨y, e1, q⟩ := r x e; ⟨y, e1, q.mono m⟩) (t.mono m)
theorem ER.get {S : Sy} {ρ : Own} {H : Hp} : ∀ {ds : En} {vs : St} {i : Nat} {d : Val}, ER S ρ H ds vs → ds[i]? = some (some d) → ∃ v, vs[i]? = some (some v) ∧ Rep S ρ H d v
  | _, _, 0, _, .cons r _, e => by
    have e := Option.some.inj e
    obtain ⟨y, e1, q⟩ := r _ e
    subst e1
    exact ⟨_, rfl, q⟩
  | _, _, i + 1, _, .cons _ t, e => ER.get (i := i) t e
  | _, _, i, _, .nil, e => by simp at e
theorem ER.set {S : Sy} {ρ : Own} {H : Hp} {d : Val} {v : V} (r : Rep S ρ H d v) : ∀ {ds : En} {vs : St} (i : Nat), ER S ρ H ds vs → ER S ρ H (ds.set i (some d)) (vs.set i (some v))
  | _, _, _, .nil => .nil
  | _, _, 0, .cons _ t => .cons (fun x e => ⟨_, rfl, by cases e; exact r⟩) t
  | _, _, i + 1, .cons q t => .cons q (ER.set r i t)
theorem ER.gone {S : Sy} {ρ : Own} {H : Hp} {v : Option V} : ∀ {ds : En} {vs : St} (i : Nat), ER S ρ H ds vs → ER S ρ H (ds.set i none) (vs.set i v)
  | _, _, _, .nil => .nil
  | _, _, 0, .cons _ t => .cons (fun x e => nomatch e) t
  | _, _, i + 1, .cons q t => .cons q (ER.gone i t)
/-- forgetting on the evaluator's side alone -/
theorem ER.weak {S : Sy} {ρ : Own} {H : Hp} : ∀ {ds : En} {vs : St} (i : Nat), ER S ρ H ds vs → ER S ρ H (ds.set i none) vs
  | _, _, _, .nil => .nil
  | _, _, 0, .cons _ t => .cons (fun x e => nomatch e) t
  | _, _, i + 1, .cons q t => .cons q (ER.weak i t)
/-! ### going on -/
/-- from one place to a later one: what was named stays named, tuples stay, what the evaluator does not hold stays, what is newly held was not there -/
structure Go (S : Sy) (ρ : Own) (H : Hp) (ρ' : Own) (H' : Hp) : Prop where
  sub : Sub ρ ρ'
  kp : Kp S H H'
  fr : ∀ a o, H a = some o → Off ρ a → H' a = some o
  nw : ∀ (i : Nat) (a : Addr), ρ'.nm[i]? = some a → (∃ j : Nat, ρ.nm[j]? = some a) ∨ H a = none
  hd : ρ'.hd = ρ.hd
theorem Go.rfl {S : Sy} {ρ : Own} {H : Hp} : Go S ρ H ρ H := ⟨.rfl, .rfl, fun _ _ h _ => h, fun i _ h => .inl ⟨i, h⟩, Eq.refl _⟩
theorem Go.trans {S : Sy} {ρ ρ1 ρ2 : Own} {H H1 H2 : Hp} (a : Go S ρ H ρ1 H1) (b : Go S ρ1 H1 ρ2 H2) : Go S ρ H ρ2 H2 := by
  refine ⟨a.sub.trans b.sub, a.kp.trans b.kp, fun x o e n => b.fr x o (a.fr x o e n) fun i q => ?_, fun i x q => ?_, b.hd.trans a.hd⟩
  · rcases a.nw i x q with ⟨j, z⟩ | z
    · exact n j z
    · rw [z] at e; cases e
  · rcases b.nw i x q with ⟨j, z⟩ | z
    · exact a.nw j x z
    · cases e : H x with
      | none => exact .inr (Eq.refl _)
      | some o =>
        refine .inl (Classical.byContradiction fun n => ?_)
        have := a.fr x o e fun j w => n ⟨j, w⟩
        rw [z] at this; cases this
/-- a new thing at p, not held -/
theorem Go.side {S : Sy} {ρ : Own} {H : Hp} {p : Addr} {o : HO} (n : H p = none) : Go S ρ H ρ (upd H p o) :=
  ⟨.rfl, .new n, fun a u e _ => by rw [upd_ne (ne_of_none e n)]; exact e, fun i _ h => .inl ⟨i, h⟩, Eq.refl _⟩
/-- a new thing at p, held -/
theorem Go.new {S : Sy} {ρ : Own} {H : Hp} {p : Addr} {o : HO} (n : H p = none) : Go S ρ H (ρ.add p) (upd H p o) := by
  refine ⟨.app, .new n, fun a u e _ => by rw [upd_ne (ne_of_none e n)]; exact e, fun i a h => ?_, Eq.refl _⟩
  rcases add_some h with h | h
  · exact .inl ⟨i, h⟩
  · subst h
    exact .inr n
/-- a thing that is held is changed -/
theorem Go.put {S : Sy} {ρ : Own} {H : Hp} {i : Nat} {a : Addr} {u o : HO} (ea : ρ.nm[i]? = some a) (e : H a = some u) (h1 : Ch u) : Go S ρ H ρ (upd H a o) :=
  ⟨.rfl, .put e h1, fun b w q n => by
    have hb : b ≠ a := fun z => n i (by rw [z]; exact ea)
    rw [upd_ne hb]; exact q, fun i _ h => .inl ⟨i, h⟩, Eq.refl _⟩
theorem Go.mv {S : Sy} {ρ ρ' : Own} {H H' : Hp} (g : Go S ρ H ρ' H') : Mv S ρ H ρ' H' := ⟨g.sub, g.kp, fun a o e f => ⟨g.fr a o e f.1, (fun i z => by
  rcases g.nw i a z with ⟨j, q⟩ | q
  · exact f.1 j q
  · rw [q] at e; cases e), by rw [g.hd]; exact f.2⟩⟩
/-! ### what is wanted behind -/
section
variable (S : Sy)
def Aft (ρ : Own) (H : Hp) (r : Res Val) (Q : VK) (W : XK) : Prop := match r with
  | .ok d h' => ∀ ρ' v H', Go S ρ H ρ' H' → Rel S ρ' h' H' → Rep S ρ' H' d v → Q v H'
  | .exc c d h' => ∀ ρ' v H' dx, Go S ρ H ρ' H' → Rel S ρ' h' H' → Rep S ρ' H' d v → H' dx = some (.xd [(S.fld c, v)]) → W (.ref (S.ca c)) (some dx) H'
  | .stuck => False
def AftS (ρ : Own) (H : Hp) (r : SRes) (D : Ends) (W : WX) : Prop := match r with
  | .nx e h' => ∀ ρ' σ' H', Go S ρ H ρ' H' → Rel S ρ' h' H' → ER S ρ' H' e σ' → D.nx σ' H'
  | .rt d h' => ∀ ρ' v H', Go S ρ H ρ' H' → Rel S ρ' h' H' → Rep S ρ' H' d v → D.rt v H'
  | .bk e h' => ∀ ρ' σ' H', Go S ρ H ρ' H' → Rel S ρ' h' H' → ER S ρ' H' e σ' → D.bk σ' H'
  | .ct e h' => ∀ ρ' σ' H', Go S ρ H ρ' H' → Rel S ρ' h' H' → ER S ρ' H' e σ' → D.ct σ' H'
  | .exc c d e h' => ∀ ρ' v σ' H' dx, Go S ρ H ρ' H' → Rel S ρ' h' H' → Rep S ρ' H' d v → ER S ρ' H' e σ' → H' dx = some (.xd [(S.fld c, v)]) → W (.ref (S.ca c)) (some dx) σ' H'
  | .stuck => False
def tE (W : WX) (f : En → Hea → Res Val) : TE := fun σ H Q => ∃ ρ e h, Rel S ρ h H ∧ ER S ρ H e σ ∧ Aft S ρ H (f e h) Q (fun c d H' => W c d σ H')
def tS (W : WX) (f : En → Hea → SRes) : TS := fun D σ H => ∃ ρ e h, Rel S ρ h H ∧ ER S ρ H e σ ∧ AftS S ρ H (f e h) D W
end
section
variable {S : Sy}
theorem Aft.later {ρ ρ1 : Own} {H H1 : Hp} {r : Res Val} {Q : VK} {W : XK} (a : Aft S ρ H r Q W) (s : Go S ρ H ρ1 H1) : Aft S ρ1 H1 r Q W := by
  cases r with
  | ok d h' => exact fun ρ2 v H2 s2 => a ρ2 v H2 (s.trans s2)
  | exc c d h' => exact fun ρ2 v H2 dx s2 => a ρ2 v H2 dx (s.trans s2)
  | stuck => exact a
theorem Aft.bind {ρ : Own} {H : Hp} {r : Res Val} {k : Val → Hea → Res Val} {Q : VK} {W : XK} (a : Aft S ρ H (r.bind k) Q W) :
    Aft S ρ H r (fun v H1 => ∃ ρ1 d h1, Go S ρ H ρ1 H1 ∧ Rel S ρ1 h1 H1 ∧ Rep S ρ1 H1 d v ∧ Aft S ρ1 H1 (k d h1) Q W) W := by
  cases r with
  | ok d h => exact fun ρ1 v H1 s R r => ⟨ρ1, d, h, s, R, r, Aft.later (r := k d h) a s⟩
  | exc c d h => exact a
  | stuck => exact a
theorem Aft.mono {ρ : Own} {H : Hp} {r : Res Val} {Q Q' : VK} {W : XK} (a : Aft S ρ H r Q W) (h : ∀ v H', Q v H' → Q' v H') : Aft S ρ H r Q' W := by
  cases r with
  | ok d h' => exact fun ρ1 v H1 s R r => h _ _ (a ρ1 v H1 s R r)
  | exc c d h' => exact a
  | stuck => exact a
theorem AftS.later {ρ ρ1 : Own} {H H1 : Hp} {r : SRes} {D : Ends} {W : WX} (a : AftS S ρ H r D W) (s : Go S ρ H ρ1 H1) : AftS S ρ1 H1 r D W := by
  cases r with
  | nx e h' => exact fun ρ2 σ H2 s2 => a ρ2 σ H2 (s.trans s2)
  | rt d h' => exact fun ρ2 σ H2 s2 => a ρ2 σ H2 (s.trans s2)
  | bk e h' => exact fun ρ2 σ H2 s2 => a ρ2 σ H2 (s.trans s2)
  | ct e h' => exact fun ρ2 σ H2 s2 => a ρ2 σ H2 (s.trans s2)
  | exc c d e h' => exact fun ρ2 v σ H2 dx s2 => a ρ2 v σ H2 dx (s.trans s2)
  | stuck => exact a
theorem Rep.go {ρ ρ' : Own} {H H' : Hp} {d : Val} {v : V} (r : Rep S ρ H d v) (g : Go S ρ H ρ' H') : Rep S ρ' H' d v := r.mono g.mv
theorem Reps.go {ρ ρ' : Own} {H H' : Hp} {d : List Val} {v : List V} (r : Reps S ρ H d v) (g : Go S ρ H ρ' H') : Reps S ρ' H' d v := r.mono g.mv
theorem ER.go {ρ ρ' : Own} {H H' : Hp} {d : En} {v : St} (r : ER S ρ H d v) (g : Go S ρ H ρ' H') : ER S ρ' H' d v := r.mono g.mv
end
theorem _root_.L2.PE.imp {X : Cx} {e : Expr} {t t' : TE} (p : PE X e t) (h : ∀ σ H Q, t' σ H Q → t σ H Q) : PE X e t' := ⟨fun pins s σ H Q I q => p.run pins s σ H Q I (h σ H Q q)⟩
theorem _root_.L2.PT.imp {X : Cx} {e : Expr} {t t' : TT} (p : PT X e t) (h : ∀ σ H Q, t' σ H Q → t σ H Q) : PT X e t' := ⟨fun pins s σ H Q I q => p.run pins s σ H Q I (h σ H Q q)⟩
theorem _root_.L2.PA.imp {X : Cx} {e : List Expr} {t t' : TA} (p : PA X e t) (h : ∀ σ H Q, t' σ H Q → t σ H Q) : PA X e t' := ⟨fun pos pins s σ H Q I q => p.run pos pins s σ H Q I (h σ H Q q)⟩
theorem _root_.L2.PS.imp {X : Cx} {e : Stmt} {t t' : TS} (p : PS X e t) (h : ∀ D σ H, t' D σ H → t D σ H) : PS X e t' := ⟨fun pins s σ H D I q => p.run pins s σ H D I (h D σ H q)⟩
theorem _root_.L2.PSs.imp {X : Cx} {e : List Stmt} {t t' : TS} (p : PSs X e t) (h : ∀ D σ H, t' D σ H → t D σ H) : PSs X e t' := ⟨fun pins s σ H D I q => p.run pins s σ H D I (h D σ H q)⟩
end Lad
end
/-! ## LadOps -/
section
set_option maxRecDepth 100000
set_option maxHeartbeats 1000000
namespace Lad
open PySem L2
/-! ### the tables that the evaluator's side of a program has -/
structure Tb where
  ca : Nat → Addr
  nm : Nat → Str
  fld : Nat → Str
  ex : Option (Addr × Nat × Addr)
abbrev sy (T : Tb) (X : Cx) : Sy := ⟨X.K, T.ca, T.nm, T.fld, T.ex⟩
/-! ### inversions -/
section
variable {S : Sy} {ρ : Own} {H : Hp}
theorem Rep.non_ {v : V} (r : Rep S ρ H .non v) : v = .non := by cases r; rfl
theorem Rep.bl_ {b : Bool} {v : V} (r : Rep S ρ H (.bl b) v) : v = .bl b := by cases r; rfl
theorem Rep.int_ {b : Int} {v : V} (r : Rep S ρ H (.int b) v) : v = .int b := by cases r; rfl
theorem Rep.str_ {b : Str} {v : V} (r : Rep S ρ H (.str b) v) : v = .str b := by cases r; rfl
theorem Rep.tup_ {ds : List Val} {v : V} (r : Rep S ρ H (.tup ds) v) : ∃ a vs, v = .ref a ∧ SqT S.K H a vs ∧ Reps S ρ H ds vs := by cases r; exact ⟨_, _, rfl, by assumption, by assumption⟩
theorem Rep.ref_ {i : Nat} {v : V} (r : Rep S ρ H (.ref i) v) : ∃ a, v = .ref a ∧ ρ.nm[i]? = some a := by cases r; exact ⟨_, rfl, by assumption⟩
/-- a list of the heap, to be read -/
def lstAt (h : Hea) (i : Nat) : Option (List Val) := match h[i]? with
  | some (.lst xs) => some xs
  | some (.fro ns) => some (ns.map Val.int)
  | _ => none
theorem Rel.lst {h : Hea} (R : Rel S ρ h H) {i : Nat} {xs : List Val} (e : lstAt h i = some xs) {a : Addr} (ea : ρ.nm[i]? = some a) : ∃ vs, SqL S.K H a vs ∧ Reps S ρ H xs vs := by
  unfold lstAt at e
  split at e
  · rename_i ys hy
    cases e
    have o := R.ob i _ a hy ea
    cases o with
    | lst h1 h2 => exact ⟨_, .inl (.inl h1), h2⟩
  · rename_i ys hy
    cases e
    have o := R.ob i _ a hy ea
    cases o with
    | fro h1 => exact ⟨_, .inl (.inr ⟨_, h1⟩), reps_ints _⟩
  · cases e
end
def opt (o : Option Val) (h : Hea) : Res Val := match o with
  | some d => .ok d h
  | none => .stuck
section
variable {S : Sy} {ρ : Own} {H : Hp} {h : Hea} {Q : VK} {W : XK}
theorem Aft.same {d : Val} {v : V} (a : Aft S ρ H (.ok d h) Q W) (R : Rel S ρ h H) (r : Rep S ρ H d v) : Q v H := a ρ v H .rfl R r
theorem Aft.tup {ds : List Val} {vs : List V} (a : Aft S ρ H (.ok (.tup ds) h) Q W) (R : Rel S ρ h H) (r : Reps S ρ H ds vs) (p : Addr) (n : H p = none) : Q (.ref p) (upd H p (.tup vs)) :=
  a ρ (.ref p) _ (.side n) (R.side n) (.tup (.inl (.inl upd_same)) (r.mono (.side n)))
theorem Aft.new {ds : List Val} {vs : List V} (a : Aft S ρ H (.ok (.ref h.length) (h ++ [.lst ds])) Q W) (R : Rel S ρ h H) (r : Reps S ρ H ds vs) (p : Addr) (n : H p = none) : Q (.ref p) (upd H p (.lst vs)) :=
  a (ρ.add p) (.ref p) _ (.new n) (R.new n (.lst upd_same (r.mono (.new n)))) (.ref (by rw [R.len]; exact add_at))
end
section
variable {S : Sy} {ρ : Own} {H : Hp} {h : Hea} {Q : VK} {W : XK}
/-- a list that nothing changes any more -/
theorem Aft.flst {ds : List Val} {vs : List V} (a : Aft S ρ H (.ok (.lst ds) h) Q W) (R : Rel S ρ h H) (r : Reps S ρ H ds vs) (p : Addr) (n : H p = none) : Q (.ref p) (upd H p (.lst vs)) :=
  a ρ (.ref p) _ (.side n) (R.side n) (.lst (R.fz n) upd_same (r.mono (.side n)))
/-- a list, to be read -/
def lstOf (h : Hea) : Val → Option (List Val)
  | .lst xs => some xs
  | .ref i => lstAt h i
  | _ => none
theorem Rel.lstV (R : Rel S ρ h H) {d : Val} {v : V} {xs : List Val} (r : Rep S ρ H d v) (e : lstOf h d = some xs) : ∃ a vs, v = .ref a ∧ SqL S.K H a vs ∧ Reps S ρ H xs vs := by
  unfold lstOf at e
  split at e
  · cases e
    cases r with
    | lst f h1 h2 => exact ⟨_, _, rfl, .inl (.inl h1), h2⟩
  · obtain ⟨p, rfl, ep⟩ := r.ref_
    obtain ⟨vs, s, q⟩ := R.lst e ep
    exact ⟨p, vs, rfl, s, q⟩
  · cases e
/-- a list other than the script -/
def lstP (h : Hea) : Val → Option (List Val)
  | .lst xs => some xs
  | .ref i => match h[i]? with
    | some (.lst xs) => some xs
    | _ => none
  | _ => none
theorem Rel.lstQ (R : Rel S ρ h H) {d : Val} {v : V} {xs : List Val} (r : Rep S ρ H d v) (e : lstP h d = some xs) : ∃ a vs, v = .ref a ∧ H a = some (.lst vs) ∧ Reps S ρ H xs vs := by
  unfold lstP at e
  split at e
  · cases e
    cases r with
    | lst f h1 h2 => exact ⟨_, _, rfl, h1, h2⟩
  · obtain ⟨p, rfl, ep⟩ := r.ref_
    split at e
    · rename_i hx
      cases e
      have o := R.ob _ _ _ hx ep
      cases o with
      | lst h1 h2 => exact ⟨p, _, rfl, h1, h2⟩
    · cases e
  · cases e
end
theorem Reps.times {S : Sy} {ρ : Own} {H : Hp} {ds : List Val} {vs : List V} (r : Reps S ρ H ds vs) : ∀ n : Nat, Reps S ρ H (List.replicate n ds).flatten (List.replicate n vs).flatten
  | 0 => .nil
  | n + 1 => by
    rw [List.replicate_succ, List.replicate_succ, List.flatten_cons, List.flatten_cons]
    exact r.app (r.times n)
/-! ### operators by values -/
def rB (S : Sy) (g : Hea → Val → Val → Option Val) : R2 := fun x y H Q => ∃ ρ h d1 d2, Rel S ρ h H ∧ Rep S ρ H d1 x ∧ Rep S ρ H d2 y ∧ Aft S ρ H (opt (g h d1 d2) h) Q (fun _ _ _ => False)
def rU1 (S : Sy) (g : Hea → Val → Option Val) : V → Hp → VK → Prop := fun x H Q => ∃ ρ h d, Rel S ρ h H ∧ Rep S ρ H d x ∧ Aft S ρ H (opt (g h d) h) Q (fun _ _ _ => False)
theorem OpR.imp {X : Cx} {f : Value → Value → Sem Value} {r r' : R2} (p : OpR X f r) (h : ∀ x y H Q, r' x y H Q → r x y H Q) : OpR X f r' := fun pins s σ H x y v u Q I rx ry q => p pins s σ H x y v u Q I rx ry (h x y H Q q)
def mulOk (i j : Int) : Bool := decide ((-(2 ^ 64) < i ∧ i < 2 ^ 64) ∨ (-(2 ^ 64) < j ∧ j < 2 ^ 64)) || decide (i.natAbs.log2 + j.natAbs.log2 < 1000000)
def oAdd : Hea → Val → Val → Option Val
  | _, .int a, .int b => some (.int (a + b))
  | _, .str a, .str b => if a.length + b.length ≤ 16777216 then some (.str (a ++ b)) else none
  | _, .tup a, .tup b => if a.length + b.length ≤ 16777216 then some (.tup (a ++ b)) else none
  | h, a, b => match lstP h a, lstP h b with
    | some a, some b => if a.length + b.length ≤ 16777216 then some (.lst (a ++ b)) else none
    | _, _ => none
def oSub : Hea → Val → Val → Option Val
  | _, .int a, .int b => some (.int (a - b))
  | _, _, _ => none
def oMul : Hea → Val → Val → Option Val
  | _, .int a, .int b => if mulOk a b = true then some (.int (a * b)) else none
  | h, a, .int k => match lstP h a with
    | some xs => if -(2 ^ 63) ≤ k ∧ k < 2 ^ 63 ∧ xs.length * k.toNat ≤ 16777216 then some (.lst (List.replicate k.toNat xs).flatten) else none
    | none => none
  | _, _, _ => none
def oDiv : Hea → Val → Val → Option Val
  | _, .int a, .int b => if b ≠ 0 ∧ b.natAbs.log2 < 9000 then some (.int (a.fdiv b)) else none
  | _, _, _ => none
def oMod : Hea → Val → Val → Option Val
  | _, .int a, .int b => if b ≠ 0 then some (.int (a.fmod b)) else none
  | _, _, _ => none
def oPow : Hea → Val → Val → Option Val
  | _, .int a, .int b => if 0 ≤ b ∧ b ≤ 1000000 ∧ a.natAbs < 2 ^ 64 then some (.int (a ^ b.toNat)) else none
  | _, _, _ => none
def oNeg : Hea → Val → Option Val
  | _, .int a => some (.int (-a))
  | _, _ => none
section
variable {T : Tb} {X : Cx}
theorem o_add : OpR X (binaryOp .Add) (rB (sy T X) oAdd) := by
  refine OpR.imp (OpR.or op_add (OpR.or op_add_str (OpR.or op_catA op_cat))) fun x y H Q h => ?_
  obtain ⟨ρ, h, d1, d2, R, r1, r2, a⟩ := h
  unfold oAdd at a
  split at a
  · obtain rfl := r1.int_; obtain rfl := r2.int_
    exact .inl ⟨_, _, rfl, rfl, a.same R (.int _)⟩
  · obtain rfl := r1.str_; obtain rfl := r2.str_
    split at a
    · rename_i hl
      exact .inr (.inl ⟨_, _, rfl, rfl, by rw [sizeLine_eq]; exact hl, a.same R (.str _)⟩)
    · exact a.elim
  · obtain ⟨p1, v1, rfl, s1, q1⟩ := r1.tup_
    obtain ⟨p2, v2, rfl, s2, q2⟩ := r2.tup_
    split at a
    · rename_i hl
      have l1 := q1.length
      have l2 := q2.length
      refine .inr (.inr (.inl ⟨p1, p2, v1, v2, rfl, rfl, s1, s2, by rw [sizeLine_eq]; omega, fun e => ?_, fun _ e => ?_, fun _ _ p n => ?_⟩))
      · subst e
        cases q1
        exact a.same R (.tup s2 q2)
      · subst e
        cases q2
        have a : Aft _ ρ H (.ok (.tup (_ ++ [])) h) Q _ := a
        rw [List.append_nil] at a
        exact a.same R (.tup s1 q1)
      · exact a.tup R (q1.app q2) p n
    · exact a.elim
  · split at a
    · rename_i xs ys e1 e2
      obtain ⟨p1, v1, rfl, s1, q1⟩ := R.lstQ r1 e1
      obtain ⟨p2, v2, rfl, s2, q2⟩ := R.lstQ r2 e2
      have l1 := q1.length
      have l2 := q2.length
      split at a
      · exact .inr (.inr (.inr ⟨p1, p2, v1, v2, rfl, rfl, s1, s2, by rw [sizeLine_eq]; omega, fun p n => Aft.flst a R (q1.app q2) p n⟩))
      · exact a.elim
    · exact a.elim
theorem o_sub : OpR X (binaryOp .Sub) (rB (sy T X) oSub) := by
  refine OpR.imp op_sub fun x y H Q h => ?_
  obtain ⟨ρ, h, d1, d2, R, r1, r2, a⟩ := h
  unfold oSub at a
  split at a
  · obtain rfl := r1.int_; obtain rfl := r2.int_
    exact ⟨_, _, rfl, rfl, a.same R (.int _)⟩
  · exact a.elim
theorem o_mul : OpR X (binaryOp .Mult) (rB (sy T X) oMul) := by
  refine OpR.imp (OpR.or op_mul (OpR.or op_mulW op_rep)) fun x y H Q h => ?_
  obtain ⟨ρ, h, d1, d2, R, r1, r2, a⟩ := h
  unfold oMul at a
  split at a
  · obtain rfl := r1.int_; obtain rfl := r2.int_
    split at a
    · rename_i hm
      unfold mulOk at hm
      rcases Bool.or_eq_true_iff.mp hm with hm | hm
      · have hm2 := of_decide_eq_true hm
        exact .inl ⟨_, _, rfl, rfl, hm2, a.same R (.int _)⟩
      · exact .inr (.inl ⟨_, _, rfl, rfl, (of_decide_eq_true (p := _ < 1000000) hm : _ < 1000000), a.same R (.int _)⟩)
    · exact a.elim
  · obtain rfl := r2.int_
    split at a
    · rename_i xs e1
      split at a
      · rename_i hk
        obtain ⟨p1, v1, rfl, s1, q1⟩ := R.lstQ r1 e1
        have l1 := q1.length
        exact .inr (.inr ⟨p1, _, v1, rfl, rfl, s1, hk.1, hk.2.1, by rw [sizeLine_eq, ← l1]; exact hk.2.2, fun p n => Aft.flst a R (q1.times _) p n⟩)
      · exact a.elim
    · exact a.elim
  · exact a.elim
theorem op_fdivA : OpR X (binaryOp .FloorDiv) (rI (fun _ j => j ≠ 0 ∧ j.natAbs.log2 < 9000) fun i j => .int (i.fdiv j)) := opI fun _ _ _ _ _ _ _ hc q => PyProof.Rows.floordiv_int hc.1 q (.inl (PyProof.noPylong_of_log2 hc.2))
theorem o_div : OpR X (binaryOp .FloorDiv) (rB (sy T X) oDiv) := by
  refine OpR.imp op_fdivA fun x y H Q h => ?_
  obtain ⟨ρ, h, d1, d2, R, r1, r2, a⟩ := h
  unfold oDiv at a
  split at a
  · obtain rfl := r1.int_; obtain rfl := r2.int_
    split at a
    · rename_i hm
      exact ⟨_, _, rfl, rfl, hm, a.same R (.int _)⟩
    · exact a.elim
  · exact a.elim
theorem o_mod : OpR X (binaryOp .Mod) (rB (sy T X) oMod) := by
  refine OpR.imp op_modN fun x y H Q h => ?_
  obtain ⟨ρ, h, d1, d2, R, r1, r2, a⟩ := h
  unfold oMod at a
  split at a
  · obtain rfl := r1.int_; obtain rfl := r2.int_
    split at a
    · rename_i hm
      exact ⟨_, _, rfl, rfl, hm, a.same R (.int _)⟩
    · exact a.elim
  · exact a.elim
theorem o_pow : OpR X (binaryOp .Pow) (rB (sy T X) oPow) := by
  refine OpR.imp op_pow fun x y H Q h => ?_
  obtain ⟨ρ, h, d1, d2, R, r1, r2, a⟩ := h
  unfold oPow at a
  split at a
  · obtain rfl := r1.int_; obtain rfl := r2.int_
    split at a
    · rename_i hm
      exact ⟨_, _, rfl, rfl, hm, a.same R (.int _)⟩
    · exact a.elim
  · exact a.elim
theorem o_neg : UnR X (unaryOp .USub) (rU1 (sy T X) oNeg) := by
  intro pins s σ H x v Q I rx h
  refine un_neg pins s σ H x v Q I rx ?_
  obtain ⟨ρ, h, d, R, r, a⟩ := h
  unfold oNeg at a
  split at a
  · obtain rfl := r.int_
    exact ⟨_, rfl, a.same R (.int _)⟩
  · exact a.elim
end
/-! ### data, ==, in -/
def mapO {α β : Type} (f : α → Option β) : List α → Option (List β)
  | [] => some []
  | x :: xs => match f x, mapO f xs with
    | some y, some ys => some (y :: ys)
    | _, _ => none
def toD : Nat → Hea → Val → Option PyData
  | _, _, .non => some .none
  | _, _, .bl b => some (.bool b)
  | _, _, .int i => some (.int i)
  | _, _, .str x => some (.str x)
  | 0, _, _ => none
  | n + 1, h, .tup xs => match mapO (toD n h) xs with
    | some ys => some (.tuple ys)
    | none => none
  | n + 1, h, .lst xs => match mapO (toD n h) xs with
    | some ys => some (.list ys)
    | none => none
  | n + 1, h, .ref i => match lstAt h i with
    | some xs => match mapO (toD n h) xs with
      | some ys => some (.list ys)
      | none => none
    | none => none
  | _ + 1, _, _ => none
section
variable {S : Sy} {ρ : Own} {H : Hp} {h : Hea}
theorem mapO_dp (n : Nat) (ih : ∀ (d : Val) (v : V) (p : PyData), Rep S ρ H d v → toD n h d = some p → Dp S.K H v p) : ∀ (xs : List Val) (vs : List V) (ps : List PyData), Reps S ρ H xs vs → mapO (toD n h) xs = some ps → DpAll S.K H vs ps
  | [], _, _, .nil, e => by cases e; exact .nil
  | x :: xs, _, _, .cons r t, e => by
    unfold mapO at e
    split at e
    · rename_i y ys h1 h2
      cases e
      exact .cons (ih _ _ _ r h1) (mapO_dp n ih xs _ _ t h2)
    · cases e
theorem toD_dp (R : Rel S ρ h H) : ∀ (n : Nat) (d : Val) (v : V) (p : PyData), Rep S ρ H d v → toD n h d = some p → Dp S.K H v p := by
  intro n
  induction n with
  | zero =>
    intro d v p r e
    cases r <;> simp only [toD] at e <;> cases e <;> constructor
  | succ n ih =>
    intro d v p r e
    cases r with
    | non => simp only [toD] at e; cases e; exact .non
    | bl b => simp only [toD] at e; cases e; exact .bl b
    | int b => simp only [toD] at e; cases e; exact .int b
    | str b => simp only [toD] at e; cases e; exact .str b
    | tup s t =>
      simp only [toD] at e
      split at e
      · rename_i ys hy
        cases e
        exact .tup s (mapO_dp n ih _ _ _ t hy)
      · cases e
    | lst f h1 h2 =>
      simp only [toD] at e
      split at e
      · rename_i ys hy
        cases e
        exact .lst (.inl (.inl h1)) (mapO_dp n ih _ _ _ h2 hy)
      · cases e
    | dicK => simp only [toD] at e; cases e
    | dicT => simp only [toD] at e; cases e
    | obj => simp only [toD] at e; cases e
    | ref ea =>
      simp only [toD] at e
      split at e
      · rename_i xs hx
        split at e
        · rename_i ys hy
          cases e
          obtain ⟨vs, s, t⟩ := R.lst hx ea
          exact .lst s (mapO_dp n ih _ _ _ t hy)
        · cases e
      · cases e
    | exn h1 h2 r => simp only [toD] at e; cases e
end
def eqB (h : Hea) (a b : Val) : Option Bool := match toD 60 h a, toD 60 h b with
  | some p, some q => if SeqAt.shaped p = true ∧ SeqAt.shaped q = true then some (PyData.eqv p q) else none
  | _, _ => none
def oEq (h : Hea) (a b : Val) : Option Val := (eqB h a b).map .bl
def oNe (h : Hea) (a b : Val) : Option Val := (eqB h a b).map fun c => .bl (!c)
theorem eqB_some {h : Hea} {a b : Val} {c : Bool} (e : eqB h a b = some c) : ∃ p q, toD 60 h a = some p ∧ toD 60 h b = some q ∧ SeqAt.shaped p = true ∧ SeqAt.shaped q = true ∧ c = PyData.eqv p q := by
  unfold eqB at e
  split at e
  · split at e
    · rename_i p q h1 h2 hs
      cases e
      exact ⟨p, q, h1, h2, hs.1, hs.2, rfl⟩
    · cases e
  · cases e
section
variable {T : Tb} {X : Cx}
theorem o_eq (hu : X.A.units + 64 < cLine) : OpR X (compareOp .Eq) (rB (sy T X) oEq) := by
  refine OpR.imp (op_eqD hu) fun x y H Q h => ?_
  obtain ⟨ρ, h, d1, d2, R, r1, r2, a⟩ := h
  unfold oEq at a
  cases e : eqB h d1 d2 with
  | none => rw [e] at a; exact a.elim
  | some c =>
    rw [e] at a
    obtain ⟨p, q, e1, e2, s1, s2, rfl⟩ := eqB_some e
    exact ⟨p, q, toD_dp R _ _ _ _ r1 e1, toD_dp R _ _ _ _ r2 e2, s1, s2, Aft.same (d := .bl _) a R (.bl _)⟩
theorem o_ne (hu : X.A.units + 64 < cLine) : OpR X (compareOp .NotEq) (rB (sy T X) oNe) := by
  refine OpR.imp (op_neD hu) fun x y H Q h => ?_
  obtain ⟨ρ, h, d1, d2, R, r1, r2, a⟩ := h
  unfold oNe at a
  cases e : eqB h d1 d2 with
  | none => rw [e] at a; exact a.elim
  | some c =>
    rw [e] at a
    obtain ⟨p, q, e1, e2, s1, s2, rfl⟩ := eqB_some e
    exact ⟨p, q, toD_dp R _ _ _ _ r1 e1, toD_dp R _ _ _ _ r2 e2, s1, s2, Aft.same (d := .bl _) a R (.bl _)⟩
end
def inB (h : Hea) (a b : Val) : Option Bool := match toD 60 h a, toD 60 h b with
  | some p, some (.list qs) => if SeqAt.shaped p = true ∧ SeqAt.shaped (.list qs) = true then some (qs.any fun z => PyData.eqv z p) else none
  | some p, some (.tuple qs) => if SeqAt.shaped p = true ∧ SeqAt.shaped (.tuple qs) = true then some (qs.any fun z => PyData.eqv z p) else none
  | some (.str p), some (.str q) => some (!(Builtin.Str.occurrences q p 0 q.length 1).isEmpty)
  | _, _ => none
def oIn (h : Hea) (a b : Val) : Option Val := (inB h a b).map .bl
def oNotIn (h : Hea) (a b : Val) : Option Val := (inB h a b).map fun c => .bl (!c)
theorem toD_str {n : Nat} {h : Hea} {d : Val} {p : Str} (e : toD n h d = some (.str p)) : d = .str p := by
  cases d with
  | str z => cases n <;> (simp only [toD] at e; cases e; rfl)
  | non => cases n <;> (simp only [toD] at e; cases e)
  | bl z => cases n <;> (simp only [toD] at e; cases e)
  | int z => cases n <;> (simp only [toD] at e; cases e)
  | exn c z => cases n <;> (simp only [toD] at e; cases e)
  | dic c z w => cases n <;> (simp only [toD] at e; cases e)
  | obj c z w => cases n <;> (simp only [toD] at e; cases e)
  | lst z =>
    cases n with
    | zero => simp only [toD] at e; cases e
    | succ n =>
      simp only [toD] at e
      split at e <;> cases e
  | tup z =>
    cases n with
    | zero => simp only [toD] at e; cases e
    | succ n =>
      simp only [toD] at e
      split at e <;> cases e
  | ref z =>
    cases n with
    | zero => simp only [toD] at e; cases e
    | succ n =>
      simp only [toD] at e
      split at e
      · split at e <;> cases e
      · cases e
section
variable {T : Tb} {X : Cx}
def rInT (K : PySem.W.Frag) (ng : Bool) : R2 := fun x y H Q => ∃ d ds, Dp K H x d ∧ Dp K H y (.tuple ds) ∧ SeqAt.shaped d = true ∧ SeqAt.shaped (.tuple ds) = true ∧ Q (.bl (if ng = true then !ds.any (fun z => PyData.eqv z d) else ds.any fun z => PyData.eqv z d)) H
theorem op_inT (hu : X.A.units + 65 < cLine) : OpR X (compareOp .In) (rInT X.K false) := by
  intro pins s σ H x y v u Q I rx ry h
  obtain ⟨d, ds, hd, he, sd, se, q⟩ := h
  obtain ⟨as, r1⟩ := Dp.reads I d x v hd rx
  obtain ⟨bs, r2⟩ := Dp.reads I (.tuple ds) y u he ry
  exact SeqAt.in_tuple_reads r2 r1 (SeqAt.canLay_of_shaped se) (SeqAt.canLay_of_shaped sd) (PyProof.Rows.room_in_shaped sd hu) ⟨.bl _, H, I, rfl, q⟩
theorem op_notInT (hu : X.A.units + 65 < cLine) : OpR X (compareOp .NotIn) (rInT X.K true) := by
  intro pins s σ H x y v u Q I rx ry h
  obtain ⟨d, ds, hd, he, sd, se, q⟩ := h
  obtain ⟨as, r1⟩ := Dp.reads I d x v hd rx
  obtain ⟨bs, r2⟩ := Dp.reads I (.tuple ds) y u he ry
  exact SeqAt.notIn_tuple_reads r2 r1 (SeqAt.canLay_of_shaped se) (SeqAt.canLay_of_shaped sd) (PyProof.Rows.room_in_shaped sd hu) ⟨.bl _, H, I, rfl, q⟩
theorem o_in (hu : X.A.units + 65 < cLine) : OpR X (compareOp .In) (rB (sy T X) oIn) := by
  refine OpR.imp (OpR.or (op_inD hu) (OpR.or (op_inT hu) op_in_str)) fun x y H Q h => ?_
  obtain ⟨ρ, h, d1, d2, R, r1, r2, a⟩ := h
  unfold oIn inB at a
  split at a
  · rename_i p qs e1 e2
    split at a
    · rename_i hs
      exact .inl ⟨p, qs, toD_dp R _ _ _ _ r1 e1, toD_dp R _ _ _ _ r2 e2, hs.1, hs.2, Aft.same (d := .bl _) a R (.bl _)⟩
    · exact a.elim
  · rename_i p qs e1 e2
    split at a
    · rename_i hs
      exact .inr (.inl ⟨p, qs, toD_dp R _ _ _ _ r1 e1, toD_dp R _ _ _ _ r2 e2, hs.1, hs.2, Aft.same (d := .bl _) a R (.bl _)⟩)
    · exact a.elim
  · rename_i p q e1 e2
    obtain rfl := toD_str e1
    obtain rfl := toD_str e2
    obtain rfl := r1.str_
    obtain rfl := r2.str_
    exact .inr (.inr ⟨p, q, rfl, rfl, Aft.same (d := .bl _) a R (.bl _)⟩)
  · exact a.elim
theorem o_notIn (hu : X.A.units + 65 < cLine) : OpR X (compareOp .NotIn) (rB (sy T X) oNotIn) := by
  refine OpR.imp (OpR.or (op_notInD hu) (OpR.or (op_notInT hu) op_notin_str)) fun x y H Q h => ?_
  obtain ⟨ρ, h, d1, d2, R, r1, r2, a⟩ := h
  unfold oNotIn inB at a
  split at a
  · rename_i p qs e1 e2
    split at a
    · rename_i hs
      exact .inl ⟨p, qs, toD_dp R _ _ _ _ r1 e1, toD_dp R _ _ _ _ r2 e2, hs.1, hs.2, Aft.same (d := .bl _) a R (.bl _)⟩
    · exact a.elim
  · rename_i p qs e1 e2
    split at a
    · rename_i hs
      exact .inr (.inl ⟨p, qs, toD_dp R _ _ _ _ r1 e1, toD_dp R _ _ _ _ r2 e2, hs.1, hs.2, Aft.same (d := .bl _) a R (.bl _)⟩)
    · exact a.elim
  · rename_i p q e1 e2
    obtain rfl := toD_str e1
    obtain rfl := toD_str e2
    obtain rfl := r1.str_
    obtain rfl := r2.str_
    exact .inr (.inr ⟨p, q, rfl, rfl, Aft.same (d := .bl _) a R (.bl _)⟩)
  · exact a.elim
end
/-! ### order -/
def lexLt : List Val → List Val → Option Bool
  | [], [] => some false
  | [], _ :: _ => some true
  | _ :: _, [] => some false
  | .int a :: as, .int b :: bs => if a = b then lexLt as bs else some (decide (a < b))
  | _, _ => none
def oLt : Hea → Val → Val → Option Val
  | _, .int a, .int b => some (.bl (decide (a < b)))
  | _, .str a, .str b => some (.bl (decide (a.cps.toList < b.cps.toList)))
  | _, _, _ => none
def oLe : Hea → Val → Val → Option Val
  | _, .int a, .int b => some (.bl (decide (a ≤ b)))
  | _, _, _ => none
def oGt : Hea → Val → Val → Option Val
  | _, .int a, .int b => some (.bl (decide (b < a)))
  | _, _, _ => none
def oGe : Hea → Val → Val → Option Val
  | _, .int a, .int b => some (.bl (decide (b ≤ a)))
  | _, _, _ => none
/-- is, is not: None or a bool on the right -/
def isB : Val → Val → Option Bool
  | .non, .non => some true
  | _, .non => some false
  | .bl a, .bl b => some (decide (a = b))
  | _, _ => none
def oIs (_ : Hea) (a b : Val) : Option Val := (isB a b).map .bl
def oIsNot (_ : Hea) (a b : Val) : Option Val := (isB a b).map fun c => .bl (!c)
section
variable {T : Tb} {X : Cx}
theorem o_lt : OpR X (compareOp .Lt) (rB (sy T X) oLt) := by
  refine OpR.imp (OpR.or op_lt op_lt_str) fun x y H Q h => ?_
  obtain ⟨ρ, h, d1, d2, R, r1, r2, a⟩ := h
  unfold oLt at a
  split at a
  · obtain rfl := r1.int_; obtain rfl := r2.int_
    exact .inl ⟨_, _, rfl, rfl, a.same R (.bl _)⟩
  · obtain rfl := r1.str_; obtain rfl := r2.str_
    exact .inr ⟨_, _, rfl, rfl, a.same R (.bl _)⟩
  · exact a.elim
theorem o_le : OpR X (compareOp .LtE) (rB (sy T X) oLe) := by
  refine OpR.imp op_le fun x y H Q h => ?_
  obtain ⟨ρ, h, d1, d2, R, r1, r2, a⟩ := h
  unfold oLe at a
  split at a
  · obtain rfl := r1.int_; obtain rfl := r2.int_
    exact ⟨_, _, rfl, rfl, a.same R (.bl _)⟩
  · exact a.elim
theorem o_gt : OpR X (compareOp .Gt) (rB (sy T X) oGt) := by
  refine OpR.imp op_gt fun x y H Q h => ?_
  obtain ⟨ρ, h, d1, d2, R, r1, r2, a⟩ := h
  unfold oGt at a
  split at a
  · obtain rfl := r1.int_; obtain rfl := r2.int_
    exact ⟨_, _, rfl, rfl, a.same R (.bl _)⟩
  · exact a.elim
theorem o_ge : OpR X (compareOp .GtE) (rB (sy T X) oGe) := by
  refine OpR.imp op_ge fun x y H Q h => ?_
  obtain ⟨ρ, h, d1, d2, R, r1, r2, a⟩ := h
  unfold oGe at a
  split at a
  · obtain rfl := r1.int_; obtain rfl := r2.int_
    exact ⟨_, _, rfl, rfl, a.same R (.bl _)⟩
  · exact a.elim
theorem o_is : OpR X (compareOp .Is) (rB (sy T X) oIs) := by
  refine OpR.imp (OpR.or op_isN op_is_bl) fun x y H Q h => ?_
  obtain ⟨ρ, h, d1, d2, R, r1, r2, a⟩ := h
  unfold oIs isB at a
  split at a
  · obtain rfl := r1.non_; obtain rfl := r2.non_
    exact .inl ⟨rfl, Aft.same (d := .bl _) a R (.bl _)⟩
  · rename_i hn
    obtain rfl := r2.non_
    refine .inl ⟨rfl, ?_⟩
    have e : decide (x = V.non) = false := by
      refine decide_eq_false fun z => ?_
      subst z
      cases r1
      exact hn rfl
    rw [e]
    exact Aft.same (d := .bl _) a R (.bl _)
  · obtain rfl := r1.bl_; obtain rfl := r2.bl_
    exact .inr ⟨_, _, rfl, rfl, Aft.same (d := .bl _) a R (.bl _)⟩
  · exact a.elim
theorem o_isNot : OpR X (compareOp .IsNot) (rB (sy T X) oIsNot) := by
  refine OpR.imp (OpR.or op_notN op_isnot_bl) fun x y H Q h => ?_
  obtain ⟨ρ, h, d1, d2, R, r1, r2, a⟩ := h
  unfold oIsNot isB at a
  split at a
  · obtain rfl := r1.non_; obtain rfl := r2.non_
    exact .inl ⟨rfl, Aft.same (d := .bl _) a R (.bl _)⟩
  · rename_i hn
    obtain rfl := r2.non_
    refine .inl ⟨rfl, ?_⟩
    have e : decide (x = V.non) = false := by
      refine decide_eq_false fun z => ?_
      subst z
      cases r1
      exact hn rfl
    rw [e]
    exact Aft.same (d := .bl _) a R (.bl _)
  · obtain rfl := r1.bl_; obtain rfl := r2.bl_
    exact .inr ⟨_, _, rfl, rfl, Aft.same (d := .bl _) a R (.bl _)⟩
  · exact a.elim
end
end Lad
end
/-! ## LadEx -/
section
set_option maxRecDepth 100000
set_option maxHeartbeats 1000000
namespace Lad
open PySem L2
theorem itT {c : Bool} {A B : Prop} (e : c = true) (h : A) : if c = true then A else B := by rw [if_pos e]; exact h
theorem itF {c : Bool} {A B : Prop} (e : c = false) (h : B) : if c = true then A else B := by rw [if_neg (by rw [e]; decide)]; exact h
/-! ### judgements: an expression; one that makes a list that nothing else holds; arguments; a test -/
section
variable (S : Sy)
def AftL (ρ : Own) (H : Hp) (r : Res (List Val)) (Q : VK) (W : XK) : Prop := match r with
  | .ok xs h' => ∀ ρ' p vs H', Go S ρ H ρ' H' → Rel S ρ' h' H' → H' p = some (.lst vs) → Fz ρ' p → H p = none → Reps S ρ' H' xs vs → Rel S (ρ'.add p) (h' ++ [.lst xs]) H' → Q (.ref p) H'
  | .exc c d h' => ∀ ρ' v H' dx, Go S ρ H ρ' H' → Rel S ρ' h' H' → Rep S ρ' H' d v → H' dx = some (.xd [(S.fld c, v)]) → W (.ref (S.ca c)) (some dx) H'
  | .stuck => False
def AftA (ρ : Own) (H : Hp) (r : Res (List Val)) (Q : List V → Hp → Prop) (W : XK) : Prop := match r with
  | .ok xs h' => ∀ ρ' vs H', Go S ρ H ρ' H' → Rel S ρ' h' H' → Reps S ρ' H' xs vs → Q vs H'
  | .exc c d h' => ∀ ρ' v H' dx, Go S ρ H ρ' H' → Rel S ρ' h' H' → Rep S ρ' H' d v → H' dx = some (.xd [(S.fld c, v)]) → W (.ref (S.ca c)) (some dx) H'
  | .stuck => False
def tL (W : WX) (f : En → Hea → Res (List Val)) : TE := fun σ H Q => ∃ ρ e h, Rel S ρ h H ∧ ER S ρ H e σ ∧ AftL S ρ H (f e h) Q (fun c d H' => W c d σ H')
def tA (W : WX) (f : En → Hea → Res (List Val)) : TA := fun σ H Q => ∃ ρ e h, Rel S ρ h H ∧ ER S ρ H e σ ∧ AftA S ρ H (f e h) Q (fun c d H' => W c d σ H')
end
abbrev SE (T : Tb) (X : Cx) (W : WX) (e : Expr) (f : En → Hea → Res Val) : Prop := PE X e (tE (sy T X) W f)
abbrev SL (T : Tb) (X : Cx) (W : WX) (e : Expr) (f : En → Hea → Res (List Val)) : Prop := PE X e (tL (sy T X) W f)
abbrev SA (T : Tb) (X : Cx) (W : WX) (es : List Expr) (f : En → Hea → Res (List Val)) : Prop := PA X es (tA (sy T X) W f)
abbrev ST (T : Tb) (X : Cx) (W : WX) (e : Expr) (f : En → Hea → Res Val) : Prop := PT X e (tB (tE (sy T X) W f))
/-! ### one after the other -/
section
variable {S : Sy} {W : WX} {σ : St} {H : Hp} {Q : VK}
/-- where an expression has been -/
structure Been (S : Sy) (σ : St) (H : Hp) (v : V) (ρ : Own) (e : En) (d : Val) (h : Hea) : Prop where
  rel : Rel S ρ h H
  env : ER S ρ H e σ
  rep : Rep S ρ H d v
theorem tE.bind {f : En → Hea → Res Val} {g : En → Val → Hea → Res Val} (a : tE S W (fun e h => (f e h).bind (g e)) σ H Q) :
    tE S W f σ H (fun v H1 => ∃ ρ e d h, Been S σ H1 v ρ e d h ∧ Aft S ρ H1 (g e d h) Q (fun c d H' => W c d σ H')) := by
  obtain ⟨ρ, e, h, R, E, a⟩ := a
  exact ⟨ρ, e, h, R, E, a.bind.mono fun v H1 ⟨ρ1, d, h1, s, R1, r, a⟩ => ⟨ρ1, e, d, h1, ⟨R1, E.go s, r⟩, a⟩⟩
/-- a second one behind it -/
theorem Been.then_ {v : V} {ρ : Own} {e : En} {d : Val} {h : Hea} {f : En → Hea → Res Val} {k : Val → Hea → Res Val} (b : Been S σ H v ρ e d h) (a : Aft S ρ H ((f e h).bind k) Q (fun c d H' => W c d σ H')) :
    tE S W f σ H (fun v2 H2 => ∃ ρ2 d2 h2, Been S σ H2 v2 ρ2 e d2 h2 ∧ Rep S ρ2 H2 d v ∧ Aft S ρ2 H2 (k d2 h2) Q (fun c d H' => W c d σ H')) :=
  ⟨ρ, e, h, b.rel, b.env, a.bind.mono fun v2 H2 ⟨ρ2, d2, h2, s, R2, r2, a2⟩ => ⟨ρ2, d2, h2, ⟨R2, b.env.go s, r2⟩, b.rep.go s, a2⟩⟩
theorem Aft.noW {ρ : Own} {h : Hea} {o : Option Val} {W W' : XK} (a : Aft S ρ H (opt o h) Q W) : Aft S ρ H (opt o h) Q W' := by
  cases o with
  | some d => exact a
  | none => exact a
end
/-! ### names, constants -/
def eVar (i : Nat) : En → Hea → Res Val := fun e h => match e[i]? with
  | some (some d) => .ok d h
  | _ => .stuck
def eC (d : Val) : En → Hea → Res Val := fun _ h => .ok d h
section
variable {T : Tb} {X : Cx} {W : WX}
theorem se_var {i : Nat} {x : Str} {pos : Pos} (p : PE X (.Name x pos) (tVar i)) : SE T X W (.Name x pos) (eVar i) := p.imp fun σ H Q h => by
  obtain ⟨ρ, e, h, R, E, a⟩ := h
  unfold eVar at a
  split at a
  · rename_i d hd
    obtain ⟨v, ev, r⟩ := E.get hd
    exact ⟨v, ev, a.same R r⟩
  · exact a.elim
theorem se_cst {e : Expr} {d : Val} {v : V} (p : PE X e (tC v)) (hr : ∀ ρ H, Rep (sy T X) ρ H d v) : SE T X W e (eC d) := p.imp fun σ H Q h => by
  obtain ⟨ρ, e, h, R, E, a⟩ := h
  exact a.same R (hr ρ H)
theorem se_int {i j pos} : SE T X W (.Constant (.int i) j pos) (eC (.int i)) := se_cst pe_int fun _ _ => .int i
theorem se_bl {i j pos} : SE T X W (.Constant (.bool i) j pos) (eC (.bl i)) := se_cst pe_bl fun _ _ => .bl i
theorem se_non {j pos} : SE T X W (.Constant .none j pos) (eC .non) := se_cst pe_non fun _ _ => .non
theorem se_str {i j pos} : SE T X W (.Constant (.str i) j pos) (eC (.str i)) := se_cst pe_str fun _ _ => .str i
end
/-! ### operators -/
def eBin (g : Hea → Val → Val → Option Val) (f1 f2 : En → Hea → Res Val) : En → Hea → Res Val := fun e h => (f1 e h).bind fun x h1 => (f2 e h1).bind fun y h2 => opt (g h2 x y) h2
def eUn (g : Hea → Val → Option Val) (f : En → Hea → Res Val) : En → Hea → Res Val := fun e h => (f e h).bind fun x h1 => opt (g h1 x) h1
section
variable {T : Tb} {X : Cx} {W : WX} {a b c : Expr} {f1 f2 f3 : En → Hea → Res Val} {pos : Pos}
theorem bin_imp {g : Hea → Val → Val → Option Val} {σ : St} {H : Hp} {Q : VK} (q : tE (sy T X) W (eBin g f1 f2) σ H Q) : tOp (rB (sy T X) g) (tE (sy T X) W f1) (tE (sy T X) W f2) σ H Q := by
  obtain ⟨ρ, e, h, R, E, a⟩ := tE.bind (f := f1) (g := fun e x h1 => (f2 e h1).bind fun y h2 => opt (g h2 x y) h2) q
  refine ⟨ρ, e, h, R, E, a.mono fun v H1 ⟨ρ1, e1, d1, h1, b1, a1⟩ => ?_⟩
  obtain ⟨ρ', e', h', R', E', a'⟩ := b1.then_ (f := f2) (W := W) a1
  exact ⟨ρ', e', h', R', E', a'.mono fun v2 H2 ⟨ρ2, d2, h2, b2, r, a2⟩ => ⟨ρ2, h2, d1, d2, b2.rel, r, b2.rep, a2.noW⟩⟩
theorem se_bin {op : Operator} {g : Hea → Val → Val → Option Val} (ho : OpR X (binaryOp op) (rB (sy T X) g)) (ha : SE T X W a f1) (hb : SE T X W b f2) : SE T X W (.BinOp a op b pos) (eBin g f1 f2) :=
  (pe_op ho ha hb).imp fun σ H Q q => bin_imp q
theorem se_un {op : UnaryOp} {g : Hea → Val → Option Val} (ho : UnR X (unaryOp op) (rU1 (sy T X) g)) (ha : SE T X W a f1) : SE T X W (.UnaryOp op a pos) (eUn g f1) :=
  (pe_un ho ha).imp fun σ H Q q => by
    obtain ⟨ρ, e, h, R, E, a⟩ := tE.bind (f := f1) (g := fun e x h1 => opt (g h1 x) h1) q
    exact ⟨ρ, e, h, R, E, a.mono fun v H1 ⟨ρ1, e1, d1, h1, b1, a1⟩ => ⟨ρ1, h1, d1, b1.rel, b1.rep, a1.noW⟩⟩
theorem se_cmp {op : CmpOp} {g : Hea → Val → Val → Option Val} (ho : OpR X (compareOp op) (rB (sy T X) g)) (ha : SE T X W a f1) (hb : SE T X W b f2) (hm : behindInMarks op b = false) : SE T X W (.Compare a [op] [b] pos) (eBin g f1 f2) :=
  (pe_cmpR ho ha hb hm).imp fun σ H Q q => bin_imp q
theorem st_cmp {op : CmpOp} {g : Hea → Val → Val → Option Val} (ho : OpR X (compareOp op) (rB (sy T X) g)) (ha : SE T X W a f1) (hb : SE T X W b f2) (hm : behindInMarks op b = false) : ST T X W (.Compare a [op] [b] pos) (eBin g f1 f2) :=
  (pt_cmpR ho ha hb hm).imp fun σ H Q q => bin_imp q
/-- a op b op' c -/
def eChain (g g' : Hea → Val → Val → Option Val) (f1 f2 f3 : En → Hea → Res Val) : En → Hea → Res Val := fun e h => (f1 e h).bind fun x h1 => (f2 e h1).bind fun y h2 => match g h2 x y with
  | some (.bl true) => (f3 e h2).bind fun z h3 => opt (g' h3 y z) h3
  | some (.bl false) => .ok (.bl false) h2
  | _ => .stuck
theorem chain_imp {g g' : Hea → Val → Val → Option Val} {σ : St} {H : Hp} {Q : VK} (q : tE (sy T X) W (eChain g g' f1 f2 f3) σ H Q) : tChain (rB (sy T X) g) (rB (sy T X) g') (tE (sy T X) W f1) (tE (sy T X) W f2) (tE (sy T X) W f3) σ H Q := by
  obtain ⟨ρ, e, h, R, E, a⟩ := tE.bind (f := f1) (g := fun e x h1 => (f2 e h1).bind fun y h2 => match g h2 x y with
    | some (.bl true) => (f3 e h2).bind fun z h3 => opt (g' h3 y z) h3
    | some (.bl false) => .ok (.bl false) h2
    | _ => .stuck) q
  refine ⟨ρ, e, h, R, E, a.mono fun v H1 ⟨ρ1, e1, d1, h1, b1, a1⟩ => ?_⟩
  obtain ⟨ρ', e', h', R', E', a'⟩ := b1.then_ (f := f2) (W := W) a1
  refine ⟨ρ', e', h', R', E', a'.mono fun v2 H2 ⟨ρ2, d2, h2, b2, r, a2⟩ => ⟨ρ2, h2, d1, d2, b2.rel, r, b2.rep, ?_⟩⟩
  split at a2
  · rename_i hg
    rw [hg]
    refine fun ρ3 v3 H3 s3 R3 r3 => ?_
    obtain rfl := r3.bl_
    refine ⟨true, rfl, ?_⟩
    refine itT rfl ?_
    have b3 : Been (sy T X) σ H3 v2 ρ3 e1 d2 h2 := ⟨R3, b2.env.go s3, b2.rep.go s3⟩
    obtain ⟨ρ4, e4, h4, R4, E4, a4⟩ := b3.then_ (f := f3) (W := W) (a2.later s3)
    exact ⟨ρ4, e4, h4, R4, E4, a4.mono fun v5 H5 ⟨ρ5, d5, h5, b5, r5, a5⟩ => ⟨ρ5, h5, d2, d5, b5.rel, r5, b5.rep, a5.noW⟩⟩
  · rename_i hg
    rw [hg]
    refine fun ρ3 v3 H3 s3 R3 r3 => ?_
    obtain rfl := r3.bl_
    refine ⟨false, rfl, ?_⟩
    refine itF rfl ?_
    exact a2 ρ3 _ H3 s3 R3 r3
  · exact a2.elim
theorem se_chain {op op' : CmpOp} {g g' : Hea → Val → Val → Option Val} (ho : OpR X (compareOp op) (rB (sy T X) g)) (ho' : OpR X (compareOp op') (rB (sy T X) g')) (ha : SE T X W a f1) (hb : SE T X W b f2) (hc : SE T X W c f3)
    (p : PE X (.Compare a [op, op'] [b, c] pos) (tChain (rB (sy T X) g) (rB (sy T X) g') (tE (sy T X) W f1) (tE (sy T X) W f2) (tE (sy T X) W f3))) : SE T X W (.Compare a [op, op'] [b, c] pos) (eChain g g' f1 f2 f3) :=
  p.imp fun σ H Q q => chain_imp q
end
/-! ### and, or, not, x if c else y -/
def eAnd (f1 f2 : En → Hea → Res Val) : En → Hea → Res Val := fun e h => (f1 e h).bind fun x h1 => match x with
  | .bl true => f2 e h1
  | .bl false => .ok (.bl false) h1
  | _ => .stuck
def eOr (f1 f2 : En → Hea → Res Val) : En → Hea → Res Val := fun e h => (f1 e h).bind fun x h1 => match x with
  | .bl true => .ok (.bl true) h1
  | .bl false => f2 e h1
  | _ => .stuck
def oNot : Hea → Val → Option Val
  | _, .bl b => some (.bl (!b))
  | _, _ => none
def eIf (f1 f2 f3 : En → Hea → Res Val) : En → Hea → Res Val := fun e h => (f1 e h).bind fun x h1 => match x with
  | .bl true => f2 e h1
  | .bl false => f3 e h1
  | _ => .stuck
section
variable {T : Tb} {X : Cx} {W : WX} {a b c : Expr} {rest : List Expr} {f1 f2 f3 : En → Hea → Res Val} {pos : Pos}
theorem se_one {op} (h : SE T X W a f1) : SE T X W (.BoolOp op [a] pos) f1 := pe_one h
theorem se_and (ha : SE T X W a f1) (hb : SE T X W (.BoolOp .And (b :: rest) pos) f2) : SE T X W (.BoolOp .And (a :: b :: rest) pos) (eAnd f1 f2) := (pe_and ha hb).imp fun σ H Q q => by
  obtain ⟨ρ, e, h, R, E, a⟩ := tE.bind (f := f1) (g := fun e x h1 => match x with | .bl true => f2 e h1 | .bl false => .ok (.bl false) h1 | _ => .stuck) q
  refine ⟨ρ, e, h, R, E, a.mono fun v H1 ⟨ρ1, e1, d1, h1, b1, a1⟩ => ?_⟩
  obtain ⟨R1, E1, r1⟩ := b1
  split at a1
  · obtain rfl := r1.bl_
    refine ⟨true, rfl, ?_⟩
    refine itT rfl ?_
    exact ⟨ρ1, e1, h1, R1, E1, a1⟩
  · obtain rfl := r1.bl_
    refine ⟨false, rfl, ?_⟩
    refine itF rfl ?_
    exact a1.same R1 (.bl _)
  · exact a1.elim
theorem se_or (ha : SE T X W a f1) (hb : SE T X W (.BoolOp .Or (b :: rest) pos) f2) : SE T X W (.BoolOp .Or (a :: b :: rest) pos) (eOr f1 f2) := (pe_or ha hb).imp fun σ H Q q => by
  obtain ⟨ρ, e, h, R, E, a⟩ := tE.bind (f := f1) (g := fun e x h1 => match x with | .bl true => .ok (.bl true) h1 | .bl false => f2 e h1 | _ => .stuck) q
  refine ⟨ρ, e, h, R, E, a.mono fun v H1 ⟨ρ1, e1, d1, h1, b1, a1⟩ => ?_⟩
  obtain ⟨R1, E1, r1⟩ := b1
  split at a1
  · obtain rfl := r1.bl_
    refine ⟨true, rfl, ?_⟩
    refine itT rfl ?_
    exact a1.same R1 (.bl _)
  · obtain rfl := r1.bl_
    refine ⟨false, rfl, ?_⟩
    refine itF rfl ?_
    exact ⟨ρ1, e1, h1, R1, E1, a1⟩
  · exact a1.elim
theorem se_not (ha : SE T X W a f1) : SE T X W (.UnaryOp .Not a pos) (eUn oNot f1) := (pe_not ha).imp fun σ H Q q => by
  obtain ⟨ρ, e, h, R, E, a⟩ := tE.bind (f := f1) (g := fun e x h1 => opt (oNot h1 x) h1) q
  refine ⟨ρ, e, h, R, E, a.mono fun v H1 ⟨ρ1, e1, d1, h1, b1, a1⟩ => ?_⟩
  obtain ⟨R1, E1, r1⟩ := b1
  unfold oNot at a1
  split at a1
  · obtain rfl := r1.bl_
    exact ⟨_, rfl, a1.same R1 (.bl _)⟩
  · exact a1.elim
/-! tests -/
theorem st_val (h : SE T X W a f1) (he : ∀ whole, isTrue a X.env whole = (do let v ← whole; standAt a.pos; holding [v] (truthy v)) := by intro _; rfl) : ST T X W a f1 := pt_val h he
def tAndW (f1 f2 : En → Hea → Res Val) (S : Sy) (W : WX) : TT := tB (tE S W (eAnd f1 f2))
theorem sw_one (h : ST T X W a f1) : PW X (.BoolOp .And [a] pos) (tB (tE (sy T X) W f1)) := pw_and1 h
theorem sw_oneO (h : ST T X W a f1) : PW X (.BoolOp .Or [a] pos) (tB (tE (sy T X) W f1)) := pw_or1 h
theorem _root_.L2.PW.imp {e : Expr} {t t' : TT} (p : PW X e t) (h : ∀ σ H Q, t' σ H Q → t σ H Q) : PW X e t' := ⟨fun whole pins s σ H Q I q => p.run whole pins s σ H Q I (h σ H Q q)⟩
theorem sw_and (ha : ST T X W a f1) (hb : PW X (.BoolOp .And (b :: rest) pos) (tB (tE (sy T X) W f2))) : PW X (.BoolOp .And (a :: b :: rest) pos) (tB (tE (sy T X) W (eAnd f1 f2))) := (pw_and ha hb).imp fun σ H Q q => by
  obtain ⟨ρ, e, h, R, E, a⟩ := tE.bind (f := f1) (g := fun e x h1 => match x with | .bl true => f2 e h1 | .bl false => .ok (.bl false) h1 | _ => .stuck) q
  refine ⟨ρ, e, h, R, E, a.mono fun v H1 ⟨ρ1, e1, d1, h1, b1, a1⟩ => ?_⟩
  obtain ⟨R1, E1, r1⟩ := b1
  split at a1
  · obtain rfl := r1.bl_
    refine ⟨true, rfl, ?_⟩
    refine itT rfl ?_
    exact ⟨ρ1, e1, h1, R1, E1, a1⟩
  · obtain rfl := r1.bl_
    refine ⟨false, rfl, ?_⟩
    refine itF rfl ?_
    obtain ⟨c, ec, q⟩ := a1.same R1 (.bl _)
    cases ec
    exact q
  · exact a1.elim
theorem sw_or (ha : ST T X W a f1) (hb : PW X (.BoolOp .Or (b :: rest) pos) (tB (tE (sy T X) W f2))) : PW X (.BoolOp .Or (a :: b :: rest) pos) (tB (tE (sy T X) W (eOr f1 f2))) := (pw_or ha hb).imp fun σ H Q q => by
  obtain ⟨ρ, e, h, R, E, a⟩ := tE.bind (f := f1) (g := fun e x h1 => match x with | .bl true => .ok (.bl true) h1 | .bl false => f2 e h1 | _ => .stuck) q
  refine ⟨ρ, e, h, R, E, a.mono fun v H1 ⟨ρ1, e1, d1, h1, b1, a1⟩ => ?_⟩
  obtain ⟨R1, E1, r1⟩ := b1
  split at a1
  · obtain rfl := r1.bl_
    refine ⟨true, rfl, ?_⟩
    refine itT rfl ?_
    obtain ⟨c, ec, q⟩ := a1.same R1 (.bl _)
    cases ec
    exact q
  · obtain rfl := r1.bl_
    refine ⟨false, rfl, ?_⟩
    refine itF rfl ?_
    exact ⟨ρ1, e1, h1, R1, E1, a1⟩
  · exact a1.elim
theorem st_bool {op} (h : PW X (.BoolOp op (a :: rest) pos) (tB (tE (sy T X) W f1))) : ST T X W (.BoolOp op (a :: rest) pos) f1 := h.pt
theorem st_not (ha : ST T X W a f1) : ST T X W (.UnaryOp .Not a pos) (eUn oNot f1) := (pt_not ha).imp fun σ H Q q => by
  obtain ⟨ρ, e, h, R, E, a⟩ := tE.bind (f := f1) (g := fun e x h1 => opt (oNot h1 x) h1) q
  refine ⟨ρ, e, h, R, E, a.mono fun v H1 ⟨ρ1, e1, d1, h1, b1, a1⟩ => ?_⟩
  obtain ⟨R1, E1, r1⟩ := b1
  unfold oNot at a1
  split at a1
  · obtain rfl := r1.bl_
    obtain ⟨c, ec, q⟩ := a1.same R1 (.bl _)
    cases ec
    exact ⟨_, rfl, q⟩
  · exact a1.elim
theorem se_if (hc : ST T X W c f1) (ha : SE T X W a f2) (hb : SE T X W b f3) : SE T X W (.IfExp c a b pos) (eIf f1 f2 f3) := (pe_ifExp hc ha hb).imp fun σ H Q q => by
  obtain ⟨ρ, e, h, R, E, a⟩ := tE.bind (f := f1) (g := fun e x h1 => match x with | .bl true => f2 e h1 | .bl false => f3 e h1 | _ => .stuck) q
  refine ⟨ρ, e, h, R, E, a.mono fun v H1 ⟨ρ1, e1, d1, h1, b1, a1⟩ => ?_⟩
  obtain ⟨R1, E1, r1⟩ := b1
  split at a1
  · obtain rfl := r1.bl_
    refine ⟨true, rfl, ?_⟩
    refine itT rfl ?_
    exact ⟨ρ1, e1, h1, R1, E1, a1⟩
  · obtain rfl := r1.bl_
    refine ⟨false, rfl, ?_⟩
    refine itF rfl ?_
    exact ⟨ρ1, e1, h1, R1, E1, a1⟩
  · exact a1.elim
end
/-! ### arguments -/
def aNil : En → Hea → Res (List Val) := fun _ h => .ok [] h
def aCons (f : En → Hea → Res Val) (g : En → Hea → Res (List Val)) : En → Hea → Res (List Val) := fun e h => (f e h).bind fun x h1 => (g e h1).bind fun xs h2 => .ok (x :: xs) h2
/-- *e in a display or a call -/
def itemsOf (h : Hea) : Val → Option (List Val)
  | .tup xs => some xs
  | .lst xs => some xs
  | .ref i => lstAt h i
  | _ => none
def aStar (f : En → Hea → Res Val) (g : En → Hea → Res (List Val)) : En → Hea → Res (List Val) := fun e h => (f e h).bind fun x h1 => match itemsOf h1 x with
  | some ys => (g e h1).bind fun xs h2 => .ok (ys ++ xs) h2
  | none => .stuck
section
variable {S : Sy} {W : WX} {σ : St} {H : Hp} {Q : VK}
theorem AftA.bind {ρ : Own} {r : Res (List Val)} {k : List Val → Hea → Res Val} {Q : VK} {W : XK} (a : Aft S ρ H (r.bind k) Q W) :
    AftA S ρ H r (fun v H1 => ∃ ρ1 d h1, Go S ρ H ρ1 H1 ∧ Rel S ρ1 h1 H1 ∧ Reps S ρ1 H1 d v ∧ Aft S ρ1 H1 (k d h1) Q W) W := by
  cases r with
  | ok d h => exact fun ρ1 v H1 s R r => ⟨ρ1, d, h, s, R, r, Aft.later (r := k d h) a s⟩
  | exc c d h => exact a
  | stuck => exact a
theorem AftA.mono {ρ : Own} {r : Res (List Val)} {Q Q' : List V → Hp → Prop} {W : XK} (a : AftA S ρ H r Q W) (h : ∀ v H', Q v H' → Q' v H') : AftA S ρ H r Q' W := by
  cases r with
  | ok d h' => exact fun ρ1 v H1 s R r => h _ _ (a ρ1 v H1 s R r)
  | exc c d h' => exact a
  | stuck => exact a
theorem AftA.later {ρ ρ1 : Own} {H1 : Hp} {r : Res (List Val)} {Q : List V → Hp → Prop} {W : XK} (a : AftA S ρ H r Q W) (s : Go S ρ H ρ1 H1) : AftA S ρ1 H1 r Q W := by
  cases r with
  | ok d h' => exact fun ρ2 v H2 s2 => a ρ2 v H2 (s.trans s2)
  | exc c d h' => exact fun ρ2 v H2 dx s2 => a ρ2 v H2 dx (s.trans s2)
  | stuck => exact a
theorem AftA.bind1 {ρ : Own} {r : Res Val} {k : Val → Hea → Res (List Val)} {Q : List V → Hp → Prop} {W : XK} (a : AftA S ρ H (r.bind k) Q W) :
    Aft S ρ H r (fun v H1 => ∃ ρ1 d h1, Go S ρ H ρ1 H1 ∧ Rel S ρ1 h1 H1 ∧ Rep S ρ1 H1 d v ∧ AftA S ρ1 H1 (k d h1) Q W) W := by
  cases r with
  | ok d h => exact fun ρ1 v H1 s R r => ⟨ρ1, d, h, s, R, r, AftA.later (r := k d h) a s⟩
  | exc c d h => exact a
  | stuck => exact a
theorem AftA.bind2 {ρ : Own} {r : Res (List Val)} {k : List Val → Hea → Res (List Val)} {Q : List V → Hp → Prop} {W : XK} (a : AftA S ρ H (r.bind k) Q W) :
    AftA S ρ H r (fun v H1 => ∃ ρ1 d h1, Go S ρ H ρ1 H1 ∧ Rel S ρ1 h1 H1 ∧ Reps S ρ1 H1 d v ∧ AftA S ρ1 H1 (k d h1) Q W) W := by
  cases r with
  | ok d h => exact fun ρ1 v H1 s R r => ⟨ρ1, d, h, s, R, r, AftA.later (r := k d h) a s⟩
  | exc c d h => exact a
  | stuck => exact a
end
section
variable {T : Tb} {X : Cx} {W : WX} {a : Expr} {es : List Expr} {f : En → Hea → Res Val} {g : En → Hea → Res (List Val)} {pos : Pos}
theorem sa_nil : SA T X W [] aNil := pa_nil.imp fun σ H Q q => by
  obtain ⟨ρ, e, h, R, E, a⟩ := q
  exact a ρ [] H .rfl R .nil
theorem sa_cons (ha : SE T X W a f) (hr : SA T X W es g) (hs : starEach (a :: es) X.env = (false, eval a X.env) :: starEach es X.env := by rfl) : SA T X W (a :: es) (aCons f g) := (pa_cons ha hr hs).imp fun σ H Q q => by
  obtain ⟨ρ, e, h, R, E, a⟩ := q
  refine ⟨ρ, e, h, R, E, (AftA.bind1 a).mono fun v H1 ⟨ρ1, d, h1, s, R1, r, a1⟩ => ⟨ρ1, e, h1, R1, E.go s, (AftA.bind2 a1).mono fun vs H2 ⟨ρ2, ds, h2, s2, R2, r2, a2⟩ => ?_⟩⟩
  exact a2 ρ2 (v :: vs) H2 .rfl R2 (.cons (r.go s2) r2)
theorem items_sq {S : Sy} {ρ : Own} {H : Hp} {h : Hea} {d : Val} {v : V} {ys : List Val} (R : Rel S ρ h H) (r : Rep S ρ H d v) (e : itemsOf h d = some ys) : ∃ p xs, v = .ref p ∧ (SqT S.K H p xs ∨ SqL S.K H p xs) ∧ Reps S ρ H ys xs := by
  unfold itemsOf at e
  split at e
  · cases e
    obtain ⟨p, vs, rfl, s, q⟩ := r.tup_
    exact ⟨p, vs, rfl, .inl s, q⟩
  · cases e
    cases r with
    | lst f h1 h2 => exact ⟨_, _, rfl, .inr (.inl (.inl h1)), h2⟩
  · obtain ⟨p, rfl, ea⟩ := r.ref_
    obtain ⟨vs, s, q⟩ := R.lst e ea
    exact ⟨p, vs, rfl, .inr s, q⟩
  · cases e
theorem sa_star {p : Pos} (ha : SE T X W a f) (hr : SA T X W es g) : SA T X W (.Starred a p :: es) (aStar f g) := (StX.pa_star ha hr).imp fun σ H Q q => by
  obtain ⟨ρ, e, h, R, E, a⟩ := q
  refine ⟨ρ, e, h, R, E, (AftA.bind1 a).mono fun v H1 ⟨ρ1, d, h1, s, R1, r, a1⟩ => ?_⟩
  split at a1
  · rename_i ys hy
    obtain ⟨p, xs, rfl, sq, q⟩ := items_sq R1 r hy
    refine ⟨p, xs, rfl, sq, ρ1, e, h1, R1, E.go s, (AftA.bind2 a1).mono fun vs H2 ⟨ρ2, ds, h2, s2, R2, r2, a2⟩ => ?_⟩
    exact a2 ρ2 (xs ++ vs) H2 .rfl R2 ((q.go s2).app r2)
  · exact a1.elim
end
/-! ### displays -/
def eTup (g : En → Hea → Res (List Val)) : En → Hea → Res Val := fun e h => (g e h).bind fun xs h1 => if xs.length ≤ 16777216 then .ok (.tup xs) h1 else .stuck
def lDisp (g : En → Hea → Res (List Val)) : En → Hea → Res (List Val) := fun e h => (g e h).bind fun xs h1 => if xs.length ≤ 16777216 then .ok xs h1 else .stuck
/-- a made list is kept -/
def eLst (g : En → Hea → Res (List Val)) : En → Hea → Res Val := fun e h => (g e h).bind fun xs h1 => .ok (.lst xs) h1
/-- .. to be changed -/
def eNew (g : En → Hea → Res (List Val)) : En → Hea → Res Val := fun e h => (g e h).bind fun xs h1 => .ok (.ref h1.length) (h1 ++ [.lst xs])
section
variable {S : Sy} {H : Hp}
theorem AftL.mono {ρ : Own} {r : Res (List Val)} {Q Q' : VK} {W : XK} (a : AftL S ρ H r Q W) (h : ∀ v H', Q v H' → Q' v H') : AftL S ρ H r Q' W := by
  cases r with
  | ok d h' => exact fun ρ1 p v H1 s R e n z r k => h _ _ (a ρ1 p v H1 s R e n z r k)
  | exc c d h' => exact a
  | stuck => exact a
theorem Go.none {ρ ρ1 ρ2 : Own} {H1 H2 : Hp} (s : Go S ρ H ρ1 H1) {p : Addr} (n : Off ρ2 p) (s2 : Go S ρ1 H1 ρ2 H2) (z : H1 p = Option.none) : H p = Option.none := by
  cases e : H p with
  | none => rfl
  | some o =>
    have := s.fr p o e fun i w => n i (s2.sub _ _ (s.sub _ _ w))
    rw [z] at this; cases this
theorem Go.adopt {ρ ρ1 : Own} {H1 : Hp} (s : Go S ρ H ρ1 H1) {p : Addr} (z : H p = Option.none) : Go S ρ H (ρ1.add p) H1 := by
  refine ⟨s.sub.trans .app, s.kp, s.fr, fun i a h => ?_, s.hd⟩
  rcases add_some h with h | h
  · exact s.nw i a h
  · subst h
    exact .inr z
theorem AftL.later {ρ ρ1 : Own} {H1 : Hp} {r : Res (List Val)} {Q : VK} {W : XK} (a : AftL S ρ H r Q W) (s : Go S ρ H ρ1 H1) : AftL S ρ1 H1 r Q W := by
  cases r with
  | ok d h' => exact fun ρ2 p v H2 s2 R e n z r k => a ρ2 p v H2 (s.trans s2) R e n (s.none n.1 s2 z) r k
  | exc c d h' => exact fun ρ2 v H2 dx s2 => a ρ2 v H2 dx (s.trans s2)
  | stuck => exact a
/-- behind a made list: another expression goes on with it -/
theorem AftL.bind {ρ : Own} {r : Res (List Val)} {k : List Val → Hea → Res Val} {Q : VK} {W : XK} (a : Aft S ρ H (r.bind k) Q W) :
    AftL S ρ H r (fun v H1 => ∃ ρ1 ds h1 p vs, Go S ρ H ρ1 H1 ∧ Rel S ρ1 h1 H1 ∧ v = .ref p ∧ H1 p = some (.lst vs) ∧ Fz ρ1 p ∧ H p = none ∧ Reps S ρ1 H1 ds vs ∧ Rel S (ρ1.add p) (h1 ++ [.lst ds]) H1 ∧ Aft S ρ H (k ds h1) Q W) W := by
  cases r with
  | ok d h => exact fun ρ1 p v H1 s R e n z r k => ⟨ρ1, d, h, p, v, s, R, rfl, e, n, z, r, k, a⟩
  | exc c d h => exact a
  | stuck => exact a
theorem AftA.bindL {ρ : Own} {r : Res (List Val)} {k : List Val → Hea → Res (List Val)} {Q : VK} {W : XK} (a : AftL S ρ H (r.bind k) Q W) :
    AftA S ρ H r (fun v H1 => ∃ ρ1 d h1, Go S ρ H ρ1 H1 ∧ Rel S ρ1 h1 H1 ∧ Reps S ρ1 H1 d v ∧ AftL S ρ1 H1 (k d h1) Q W) W := by
  cases r with
  | ok d h => exact fun ρ1 v H1 s R r => ⟨ρ1, d, h, s, R, r, AftL.later (r := k d h) a s⟩
  | exc c d h => exact a
  | stuck => exact a
theorem AftL.bind1 {ρ : Own} {r : Res Val} {k : Val → Hea → Res (List Val)} {Q : VK} {W : XK} (a : AftL S ρ H (r.bind k) Q W) :
    Aft S ρ H r (fun v H1 => ∃ ρ1 d h1, Go S ρ H ρ1 H1 ∧ Rel S ρ1 h1 H1 ∧ Rep S ρ1 H1 d v ∧ AftL S ρ1 H1 (k d h1) Q W) W := by
  cases r with
  | ok d h => exact fun ρ1 v H1 s R r => ⟨ρ1, d, h, s, R, r, AftL.later (r := k d h) a s⟩
  | exc c d h => exact a
  | stuck => exact a
/-- a new list that is made now -/
theorem AftL.made {ρ : Own} {h : Hea} {xs : List Val} {vs : List V} {Q : VK} {W : XK} (a : AftL S ρ H (.ok xs h) Q W) (R : Rel S ρ h H) (r : Reps S ρ H xs vs) (p : Addr) (n : H p = none) : Q (.ref p) (upd H p (.lst vs)) :=
  a ρ p vs _ (.side n) (R.side n) upd_same (R.fz n) n (r.mono (.side n)) (R.new n (.lst upd_same (r.mono (.new n))))
end
section
variable {T : Tb} {X : Cx} {W : WX} {a : Expr} {es : List Expr} {f : En → Hea → Res Val} {g : En → Hea → Res (List Val)} {pos : Pos}
theorem se_tup {x1} (h : SA T X W es g) : SE T X W (.Tuple es x1 pos) (eTup g) := (pe_tup h).imp fun σ H Q q => by
  obtain ⟨ρ, e, h, R, E, a⟩ := q
  refine ⟨ρ, e, h, R, E, (AftA.bind a).mono fun vs H1 ⟨ρ1, ds, h1, s, R1, r, a1⟩ => ?_⟩
  have l := r.length
  split at a1
  · exact ⟨by rw [sizeLine_eq]; omega, fun p n => a1.tup R1 r p n⟩
  · exact a1.elim
theorem sl_lst (h : SA T X W es g) : SL T X W (.List es pos) (lDisp g) := (pe_lst h).imp fun σ H Q q => by
  obtain ⟨ρ, e, h, R, E, a⟩ := q
  refine ⟨ρ, e, h, R, E, (AftA.bindL a).mono fun vs H1 ⟨ρ1, ds, h1, s, R1, r, a1⟩ => ?_⟩
  have l := r.length
  split at a1
  · exact ⟨by rw [sizeLine_eq]; omega, fun p n => a1.made R1 r p n⟩
  · exact a1.elim
theorem se_new (h : SL T X W a g) : SE T X W a (eNew g) := h.imp fun σ H Q q => by
  obtain ⟨ρ, e, h, R, E, a⟩ := q
  refine ⟨ρ, e, h, R, E, (AftL.bind a).mono fun v H1 ⟨ρ1, ds, h1, p, vs, s, R1, ev, el, n, z, r, k, a1⟩ => ?_⟩
  subst ev
  exact a1 (ρ1.add p) (.ref p) H1 (s.adopt z) k (.ref (by rw [R1.len]; exact add_at))
theorem se_lst (h : SL T X W a g) : SE T X W a (eLst g) := h.imp fun σ H Q q => by
  obtain ⟨ρ, e, h, R, E, a⟩ := q
  refine ⟨ρ, e, h, R, E, (AftL.bind a).mono fun v H1 ⟨ρ1, ds, h1, p, vs, s, R1, ev, el, n, z, r, k, a1⟩ => ?_⟩
  subst ev
  exact a1 ρ1 (.ref p) H1 s R1 (.lst n el r)
end
end Lad
end
/-! ## LadBi -/
section
set_option maxRecDepth 100000
set_option maxHeartbeats 1000000
namespace Lad
open PySem L2
/-! ### calls of built-ins by values -/
def rC (S : Sy) (g : Hea → List Val → Option Val) : List V → Hp → VK → Prop := fun vs H Q => ∃ ρ h ds, Rel S ρ h H ∧ Reps S ρ H ds vs ∧ Aft S ρ H (opt (g h ds) h) Q (fun _ _ _ => False)
/-- of one list or tuple, by its items -/
def rIt (S : Sy) (g : List Val → Option Val) : List V → Hp → VK → Prop := fun vs H Q => ∃ ρ h xs us p, Rel S ρ h H ∧ vs = [.ref p] ∧ (SqL S.K H p us ∨ SqT S.K H p us) ∧ Reps S ρ H xs us ∧ Aft S ρ H (opt (g xs) h) Q (fun _ _ _ => False)
/-- of one list -/
def rIl (S : Sy) (g : List Val → Option Val) : List V → Hp → VK → Prop := fun vs H Q => ∃ ρ h xs us p, Rel S ρ h H ∧ vs = [.ref p] ∧ SqL S.K H p us ∧ Reps S ρ H xs us ∧ Aft S ρ H (opt (g xs) h) Q (fun _ _ _ => False)
def eCB (g : Hea → List Val → Option Val) (as : En → Hea → Res (List Val)) : En → Hea → Res Val := fun e h => (as e h).bind fun ds h1 => opt (g h1 ds) h1
/-- the argument is a value -/
def eIt (g : List Val → Option Val) (f : En → Hea → Res Val) : En → Hea → Res Val := fun e h => (f e h).bind fun d h1 => match itemsOf h1 d with
  | some xs => opt (g xs) h1
  | none => .stuck
def eIl (g : List Val → Option Val) (f : En → Hea → Res Val) : En → Hea → Res Val := fun e h => (f e h).bind fun d h1 => match lstOf h1 d with
  | some xs => opt (g xs) h1
  | none => .stuck
/-- the argument is a list made for it -/
def eItL (g : List Val → Option Val) (f : En → Hea → Res (List Val)) : En → Hea → Res Val := fun e h => (f e h).bind fun xs h1 => opt (g xs) h1
theorem CallR.imp {X : Cx} {f : Value} {r r' : List V → Hp → VK → Prop} (p : CallR X f r) (h : ∀ vs H Q, r' vs H Q → r vs H Q) : CallR X f r' := fun pins s σ H vs us Q I rx q => p pins s σ H vs us Q I rx (h vs H Q q)
section
variable {T : Tb} {X : Cx} {W : WX} {a : Expr} {es : List Expr} {f : En → Hea → Res Val} {g : En → Hea → Res (List Val)} {pos : Pos}
theorem cb_imp {r : Hea → List Val → Option Val} {σ : St} {H : Hp} {Q : VK} (q : tE (sy T X) W (eCB r g) σ H Q) : tCB (rC (sy T X) r) (tA (sy T X) W g) σ H Q := by
  obtain ⟨ρ, e, h, R, E, a⟩ := q
  exact ⟨ρ, e, h, R, E, (AftA.bind a).mono fun vs H1 ⟨ρ1, ds, h1, s, R1, r1, a1⟩ => ⟨ρ1, h1, ds, R1, r1, a1.noW⟩⟩
theorem it_imp {r : List Val → Option Val} {σ : St} {H : Hp} {Q : VK} (q : tE (sy T X) W (eIt r f) σ H Q) : tCB (rIt (sy T X) r) (tCons (tE (sy T X) W f) tNil) σ H Q := by
  obtain ⟨ρ, e, h, R, E, a⟩ := q
  refine ⟨ρ, e, h, R, E, a.bind.mono fun v H1 ⟨ρ1, d, h1, s, R1, r1, a1⟩ => ?_⟩
  split at a1
  · rename_i xs hx
    obtain ⟨p, us, rfl, sq, rr⟩ := items_sq R1 r1 hx
    exact ⟨ρ1, h1, xs, us, p, R1, rfl, sq.symm, rr, a1.noW⟩
  · exact a1.elim
theorem il_imp {r : List Val → Option Val} {σ : St} {H : Hp} {Q : VK} (q : tE (sy T X) W (eIl r f) σ H Q) : tCB (rIl (sy T X) r) (tCons (tE (sy T X) W f) tNil) σ H Q := by
  obtain ⟨ρ, e, h, R, E, a⟩ := q
  refine ⟨ρ, e, h, R, E, a.bind.mono fun v H1 ⟨ρ1, d, h1, s, R1, r1, a1⟩ => ?_⟩
  split at a1
  · rename_i xs hx
    obtain ⟨p, us, rfl, sq, rr⟩ := R1.lstV r1 hx
    exact ⟨ρ1, h1, xs, us, p, R1, rfl, sq, rr, a1.noW⟩
  · exact a1.elim
theorem itL_imp {r : List Val → Option Val} {σ : St} {H : Hp} {Q : VK} (q : tE (sy T X) W (eItL r g) σ H Q) : tCB (rIt (sy T X) r) (tCons (tL (sy T X) W g) tNil) σ H Q := by
  obtain ⟨ρ, e, h, R, E, a⟩ := q
  refine ⟨ρ, e, h, R, E, (AftL.bind a).mono fun v H1 ⟨ρ1, ds, h1, p, vs, s, R1, ev, el, n, z, r1, _, a1⟩ => ?_⟩
  subst ev
  exact ⟨ρ1, h1, ds, vs, p, R1, rfl, .inl (.inl (.inl el)), r1, (a1.later s).noW⟩
theorem ilL_imp {r : List Val → Option Val} {σ : St} {H : Hp} {Q : VK} (q : tE (sy T X) W (eItL r g) σ H Q) : tCB (rIl (sy T X) r) (tCons (tL (sy T X) W g) tNil) σ H Q := by
  obtain ⟨ρ, e, h, R, E, a⟩ := q
  refine ⟨ρ, e, h, R, E, (AftL.bind a).mono fun v H1 ⟨ρ1, ds, h1, p, vs, s, R1, ev, el, n, z, r1, _, a1⟩ => ?_⟩
  subst ev
  exact ⟨ρ1, h1, ds, vs, p, R1, rfl, .inl (.inl el), r1, (a1.later s).noW⟩
end
def ints? : List Val → Option (List Int)
  | [] => some []
  | .int i :: xs => (ints? xs).map (i :: ·)
  | _ => none
def bls? : List Val → Option (List Bool)
  | [] => some []
  | .bl i :: xs => (bls? xs).map (i :: ·)
  | _ => none
theorem ints_eq : ∀ {xs : List Val} {ns : List Int}, ints? xs = some ns → xs = ns.map Val.int
  | [], ns, e => by cases e; rfl
  | .int i :: xs, ns, e => by
    simp only [ints?] at e
    cases q : ints? xs with
    | none => rw [q] at e; cases e
    | some ms => rw [q] at e; cases e; rw [ints_eq q]; rfl
  | .non :: _, _, e => by cases e
  | .bl _ :: _, _, e => by cases e
  | .str _ :: _, _, e => by cases e
  | .tup _ :: _, _, e => by cases e
  | .ref _ :: _, _, e => by cases e
  | .exn _ _ :: _, _, e => by cases e
  | .lst _ :: _, _, e => by cases e
  | .dic _ _ _ :: _, _, e => by cases e
  | .obj _ _ _ :: _, _, e => by cases e
theorem bls_eq : ∀ {xs : List Val} {ns : List Bool}, bls? xs = some ns → xs = ns.map Val.bl
  | [], ns, e => by cases e; rfl
  | .bl i :: xs, ns, e => by
    simp only [bls?] at e
    cases q : bls? xs with
    | none => rw [q] at e; cases e
    | some ms => rw [q] at e; cases e; rw [bls_eq q]; rfl
  | .non :: _, _, e => by cases e
  | .int _ :: _, _, e => by cases e
  | .str _ :: _, _, e => by cases e
  | .tup _ :: _, _, e => by cases e
  | .ref _ :: _, _, e => by cases e
  | .exn _ _ :: _, _, e => by cases e
  | .lst _ :: _, _, e => by cases e
  | .dic _ _ _ :: _, _, e => by cases e
  | .obj _ _ _ :: _, _, e => by cases e
theorem Reps.bls {S : Sy} {ρ : Own} {H : Hp} : ∀ {ns : List Bool} {vs : List V}, Reps S ρ H (ns.map Val.bl) vs → vs = ns.map V.bl
  | [], _, .nil => rfl
  | n :: ns, _, .cons r t => by
    cases r
    rw [Reps.bls t]
    rfl
def iMax : List Int → Option Int
  | [] => none
  | n :: ns => some (ns.foldl (fun a b => if b > a then b else a) n)
def iMin : List Int → Option Int
  | [] => none
  | n :: ns => some (ns.foldl (fun a b => if b < a then b else a) n)
theorem foldMax : ∀ (ns : List Int) (n : Int), (ns.foldl (fun a b => if b > a then b else a) n = n ∨ ns.foldl (fun a b => if b > a then b else a) n ∈ ns) ∧ n ≤ ns.foldl (fun a b => if b > a then b else a) n ∧ ∀ y ∈ ns, y ≤ ns.foldl (fun a b => if b > a then b else a) n
  | [], n => ⟨.inl rfl, Int.le_refl _, fun _ h => nomatch h⟩
  | m :: ns, n => by
    obtain ⟨h1, h2, h3⟩ := foldMax ns (if m > n then m else n)
    simp only [List.foldl_cons]
    by_cases c : m > n
    · rw [if_pos c] at h1 h2 h3 ⊢
      refine ⟨.inr ?_, by omega, fun y hy => ?_⟩
      · rcases h1 with e | e
        · rw [e]; exact List.mem_cons_self
        · exact List.mem_cons_of_mem _ e
      · rcases List.mem_cons.mp hy with rfl | hy
        · exact h2
        · exact h3 y hy
    · rw [if_neg c] at h1 h2 h3 ⊢
      refine ⟨?_, h2, fun y hy => ?_⟩
      · rcases h1 with e | e
        · exact .inl e
        · exact .inr (List.mem_cons_of_mem _ e)
      · rcases List.mem_cons.mp hy with rfl | hy
        · omega
        · exact h3 y hy
theorem foldMin : ∀ (ns : List Int) (n : Int), (ns.foldl (fun a b => if b < a then b else a) n = n ∨ ns.foldl (fun a b => if b < a then b else a) n ∈ ns) ∧ ns.foldl (fun a b => if b < a then b else a) n ≤ n ∧ ∀ y ∈ ns, ns.foldl (fun a b => if b < a then b else a) n ≤ y
  | [], n => ⟨.inl rfl, Int.le_refl _, fun _ h => nomatch h⟩
  | m :: ns, n => by
    obtain ⟨h1, h2, h3⟩ := foldMin ns (if m < n then m else n)
    simp only [List.foldl_cons]
    by_cases c : m < n
    · rw [if_pos c] at h1 h2 h3 ⊢
      refine ⟨.inr ?_, by omega, fun y hy => ?_⟩
      · rcases h1 with e | e
        · rw [e]; exact List.mem_cons_self
        · exact List.mem_cons_of_mem _ e
      · rcases List.mem_cons.mp hy with rfl | hy
        · exact h2
        · exact h3 y hy
    · rw [if_neg c] at h1 h2 h3 ⊢
      refine ⟨?_, h2, fun y hy => ?_⟩
      · rcases h1 with e | e
        · exact .inl e
        · exact .inr (List.mem_cons_of_mem _ e)
      · rcases List.mem_cons.mp hy with rfl | hy
        · omega
        · exact h3 y hy
theorem iMax_ok {ns : List Int} {m : Int} (e : iMax ns = some m) : m ∈ ns ∧ ∀ y ∈ ns, y ≤ m := by
  cases ns with
  | nil => cases e
  | cons n ns =>
    cases e
    obtain ⟨h1, h2, h3⟩ := foldMax ns n
    refine ⟨?_, fun y hy => ?_⟩
    · rcases h1 with e | e
      · rw [e]; exact List.mem_cons_self
      · exact List.mem_cons_of_mem _ e
    · rcases List.mem_cons.mp hy with rfl | hy
      · exact h2
      · exact h3 y hy
theorem iMin_ok {ns : List Int} {m : Int} (e : iMin ns = some m) : m ∈ ns ∧ ∀ y ∈ ns, m ≤ y := by
  cases ns with
  | nil => cases e
  | cons n ns =>
    cases e
    obtain ⟨h1, h2, h3⟩ := foldMin ns n
    refine ⟨?_, fun y hy => ?_⟩
    · rcases h1 with e | e
      · rw [e]; exact List.mem_cons_self
      · exact List.mem_cons_of_mem _ e
    · rcases List.mem_cons.mp hy with rfl | hy
      · exact h2
      · exact h3 y hy
def gLen (xs : List Val) : Option Val := some (.int xs.length)
def gAll (xs : List Val) : Option Val := (bls? xs).map fun bs => .bl (bs.all id)
def gAny (xs : List Val) : Option Val := (bls? xs).map fun bs => .bl (bs.any id)
def gSum (xs : List Val) : Option Val := (ints? xs).map fun ns => .int ns.sum
def gMax (xs : List Val) : Option Val := ((ints? xs).bind iMax).map .int
def gMin (xs : List Val) : Option Val := ((ints? xs).bind iMin).map .int
def gTuple (xs : List Val) : Option Val := some (.tup xs)
def gAbs : Hea → List Val → Option Val
  | _, [.int i] => some (.int (if i < 0 then -i else i))
  | _, _ => none
def gMax2 : Hea → List Val → Option Val
  | _, [.int i, .int j] => some (.int (if j > i then j else i))
  | _, _ => none
def gMin2 : Hea → List Val → Option Val
  | _, [.int i, .int j] => some (.int (if j < i then j else i))
  | _, _ => none
def gInt : Hea → List Val → Option Val
  | _, [.int i] => some (.int i)
  | _, [.bl k] => some (.int (if k then 1 else 0))
  | _, _ => none
def gRepr : Hea → List Val → Option Val
  | _, [.int i] => if i.natAbs.log2 < 1920 then some (.str (toString i)) else none
  | _, _ => none
section
variable {T : Tb} {X : Cx}
theorem g_len : CallR X (.builtin "len") (rIt (sy T X) gLen) := CallR.imp call_len_seq fun vs H Q h => by
  obtain ⟨ρ, h, xs, us, p, R, rfl, sq, r, a⟩ := h
  refine ⟨p, us, rfl, sq, ?_⟩
  rw [← r.length]
  exact a.same R (.int _)
theorem g_all (hc : X.calm = true) : CallR X (.builtin "all") (rIl (sy T X) gAll) := CallR.imp (cr_all hc) fun vs H Q h => by
  obtain ⟨ρ, h, xs, us, p, R, rfl, sq, r, a⟩ := h
  unfold gAll at a
  cases e : bls? xs with
  | none => rw [e] at a; exact a.elim
  | some bs =>
    rw [e] at a
    obtain rfl := bls_eq e
    obtain rfl := r.bls
    exact ⟨p, bs, rfl, sq, Aft.same (d := .bl _) a R (.bl _)⟩
theorem g_any (hc : X.calm = true) : CallR X (.builtin "any") (rIl (sy T X) gAny) := CallR.imp (cr_any hc) fun vs H Q h => by
  obtain ⟨ρ, h, xs, us, p, R, rfl, sq, r, a⟩ := h
  unfold gAny at a
  cases e : bls? xs with
  | none => rw [e] at a; exact a.elim
  | some bs =>
    rw [e] at a
    obtain rfl := bls_eq e
    obtain rfl := r.bls
    exact ⟨p, bs, rfl, sq, Aft.same (d := .bl _) a R (.bl _)⟩
theorem g_sum (hc : X.calm = true) : CallR X (.builtin "sum") (rIl (sy T X) gSum) := CallR.imp (cr_sum hc) fun vs H Q h => by
  obtain ⟨ρ, h, xs, us, p, R, rfl, sq, r, a⟩ := h
  unfold gSum at a
  cases e : ints? xs with
  | none => rw [e] at a; exact a.elim
  | some bs =>
    rw [e] at a
    obtain rfl := ints_eq e
    obtain rfl := r.ints
    exact ⟨p, bs, rfl, sq, Aft.same (d := .int _) a R (.int _)⟩
theorem g_max (hc : X.calm = true) : CallR X (.builtin "max") (rIl (sy T X) gMax) := CallR.imp (cr_max hc) fun vs H Q h => by
  obtain ⟨ρ, h, xs, us, p, R, rfl, sq, r, a⟩ := h
  unfold gMax at a
  cases e : ints? xs with
  | none => rw [e] at a; exact a.elim
  | some bs =>
    rw [e] at a
    cases e2 : iMax bs with
    | none => simp [e2, opt, Aft] at a
    | some m =>
      simp only [Option.bind_some, e2, Option.map_some] at a
      obtain rfl := ints_eq e
      obtain rfl := r.ints
      obtain ⟨h1, h2⟩ := iMax_ok e2
      refine ⟨p, bs, rfl, sq, List.length_pos_of_mem h1, fun m' h1' h2' => ?_⟩
      have : m' = m := Int.le_antisymm (h2 _ h1') (h2' _ h1)
      subst this
      exact Aft.same (d := .int _) a R (.int _)
theorem g_min (hc : X.calm = true) : CallR X (.builtin "min") (rIl (sy T X) gMin) := CallR.imp (cr_min hc) fun vs H Q h => by
  obtain ⟨ρ, h, xs, us, p, R, rfl, sq, r, a⟩ := h
  unfold gMin at a
  cases e : ints? xs with
  | none => rw [e] at a; exact a.elim
  | some bs =>
    rw [e] at a
    cases e2 : iMin bs with
    | none => simp [e2, opt, Aft] at a
    | some m =>
      simp only [Option.bind_some, e2, Option.map_some] at a
      obtain rfl := ints_eq e
      obtain rfl := r.ints
      obtain ⟨h1, h2⟩ := iMin_ok e2
      refine ⟨p, bs, rfl, sq, List.length_pos_of_mem h1, fun m' h1' h2' => ?_⟩
      have : m' = m := Int.le_antisymm (h2' _ h1) (h2 _ h1')
      subst this
      exact Aft.same (d := .int _) a R (.int _)
theorem g_tuple : CallR X (.type "tuple") (rIt (sy T X) gTuple) := CallR.imp call_tuple_of fun vs H Q h => by
  obtain ⟨ρ, h, xs, us, p, R, rfl, sq, r, a⟩ := h
  refine ⟨p, us, rfl, ?_⟩
  rcases sq with sq | sq
  · exact .inl ⟨sq, fun l n => Aft.tup a R r l n⟩
  · exact .inr ⟨sq, Aft.same a R (.tup sq r)⟩
theorem g_abs : CallR X (.builtin "abs") (rC (sy T X) gAbs) := CallR.imp call_abs fun vs H Q h => by
  obtain ⟨ρ, h, ds, R, r, a⟩ := h
  unfold gAbs at a
  split at a
  · obtain rfl := Reps.ints (ns := [_]) r
    exact ⟨_, rfl, Aft.same (d := .int _) a R (.int _)⟩
  · exact a.elim
theorem g_max2 (hc : X.calm = true) : CallR X (.builtin "max") (rC (sy T X) gMax2) := CallR.imp (call_max2 hc) fun vs H Q h => by
  obtain ⟨ρ, h, ds, R, r, a⟩ := h
  unfold gMax2 at a
  split at a
  · obtain rfl := Reps.ints (ns := [_, _]) r
    exact ⟨_, _, rfl, Aft.same (d := .int _) a R (.int _)⟩
  · exact a.elim
theorem g_min2 (hc : X.calm = true) : CallR X (.builtin "min") (rC (sy T X) gMin2) := CallR.imp (call_min2 hc) fun vs H Q h => by
  obtain ⟨ρ, h, ds, R, r, a⟩ := h
  unfold gMin2 at a
  split at a
  · obtain rfl := Reps.ints (ns := [_, _]) r
    exact ⟨_, _, rfl, Aft.same (d := .int _) a R (.int _)⟩
  · exact a.elim
theorem g_int : CallR X (.type "int") (rC (sy T X) gInt) := CallR.imp call_int1 fun vs H Q h => by
  obtain ⟨ρ, h, ds, R, r, a⟩ := h
  unfold gInt at a
  split at a
  · obtain rfl := Reps.ints (ns := [_]) r
    exact .inl ⟨_, rfl, Aft.same (d := .int _) a R (.int _)⟩
  · obtain rfl := Reps.bls (ns := [_]) r
    exact .inr ⟨_, rfl, Aft.same (d := .int _) a R (.int _)⟩
  · exact a.elim
theorem g_repr : CallR X (.builtin "repr") (rC (sy T X) gRepr) := CallR.imp SkE.call_repr_int fun vs H Q h => by
  obtain ⟨ρ, h, ds, R, r, a⟩ := h
  unfold gRepr at a
  split at a
  · split at a
    · rename_i hl
      obtain rfl := Reps.ints (ns := [_]) r
      exact ⟨_, rfl, hl, Aft.same (d := .str _) a R (.str _)⟩
    · exact a.elim
  · exact a.elim
end
/-! ### isinstance with built-in classes -/
inductive BT where
  | int | bool | str | tuple | list | dict
def BT.nm : BT → String
  | .int => "int" | .bool => "bool" | .str => "str" | .tuple => "tuple" | .list => "list" | .dict => "dict"
inductive TK where
  | non | bool | int | str | tuple | list | dict
def TK.nm : TK → String
  | .non => "NoneType" | .bool => "bool" | .int => "int" | .str => "str" | .tuple => "tuple" | .list => "list" | .dict => "dict"
def isTB : TK → BT → Bool
  | .bool, .bool | .bool, .int | .int, .int | .str, .str | .tuple, .tuple | .list, .list | .dict, .dict => true
  | _, _ => false
theorem kit_tb (k : TK) (b : BT) : kitB k.nm b.nm = some (isTB k b) := by
  cases k <;> cases b <;> decide +kernel
def tyK (h : Hea) : Val → Option TK
  | .non => some .non
  | .bl _ => some .bool
  | .int _ => some .int
  | .str _ => some .str
  | .tup _ => some .tuple
  | .lst _ => some .list
  | .dic _ _ _ => some .dict
  | .obj _ _ _ => none
  | .ref i => match h[i]? with
    | some (.lst _) => some .list
    | some (.fro _) => some .list
    | some (.dcK _) => some .dict
    | some (.dcT _) => some .dict
    | _ => none
  | .exn _ _ => none
theorem tyK_ok {S : Sy} {ρ : Own} {H : Hp} {h : Hea} {d : Val} {v : V} {k : TK} (R : Rel S ρ h H) (r : Rep S ρ H d v) (e : tyK h d = some k) : TyX S.K H v (.type k.nm) := by
  cases r with
  | non => cases e; exact .base .non
  | bl b => cases e; exact .base (.bl b)
  | int b => cases e; exact .base (.int b)
  | str b => cases e; exact .base (.str b)
  | tup s q =>
    cases e
    rcases s with (s | ⟨o, s⟩) | ⟨o, its, n, s, c, _⟩
    · exact .base (.tup s)
    · exact .fTuple s
    · exact .kTuple s c
  | lst f h1 h2 => cases e; exact .base (.lst h1)
  | dicK f h1 _ _ _ => cases e; exact .base (.dK h1)
  | dicT f h1 _ _ _ => cases e; exact .base (.dT h1)
  | obj => cases e
  | ref ea =>
    unfold tyK at e
    dsimp only at e
    split at e
    · rename_i xs hx
      cases e
      have o := R.ob _ _ _ hx ea
      cases o with
      | lst h1 h2 => exact .base (.lst h1)
    · rename_i xs hx
      cases e
      have o := R.ob _ _ _ hx ea
      cases o with
      | fro h1 => exact .base (.frz h1)
    · rename_i xs hx
      cases e
      have o := R.ob _ _ _ hx ea
      cases o with
      | dcK h1 h2 => exact .base (.dK h1)
    · rename_i xs hx
      cases e
      have o := R.ob _ _ _ hx ea
      cases o with
      | dcT h1 h2 => exact .base (.dT h1)
    · cases e
  | exn h1 h2 r => cases e
def oIsi (ts : List BT) (h : Hea) (d : Val) : Option Val := (tyK h d).map fun k => .bl (ts.any (isTB k))
section
variable {T : Tb} {X : Cx} {W : WX} {a : Expr} {f : En → Hea → Res Val} {pos p p1 p2 p3 : Pos}
theorem se_isi {b : BT} {x : Str} (hg : Gl X "isinstance") (hm : X.mg "isinstance" = none) (ha : SE T X W a f) (hb : PE X (.Name x p1) (tC (.ty b.nm))) (hs : starEach (a :: [.Name x p1]) X.env = (false, eval a X.env) :: starEach [.Name x p1] X.env := by rfl) :
    SE T X W (.Call (.Name "isinstance" p) [a, .Name x p1] [] pos) (eUn (oIsi [b]) f) := by
  refine PE.imp (pe_callB call_isi hg hm (by decide +kernel) (pa_cons ha (pa_cons hb pa_nil) hs) (he := hs)) fun σ H Q q => ?_
  obtain ⟨ρ, e, h, R, E, a⟩ := tE.bind (f := f) (g := fun e x h1 => opt (oIsi [b] h1 x) h1) q
  refine ⟨ρ, e, h, R, E, a.mono fun v H1 ⟨ρ1, e1, d1, h1, b1, a1⟩ => ?_⟩
  obtain ⟨R1, E1, r1⟩ := b1
  show rIsi X.K [v, .ty b.nm] H1 Q
  unfold oIsi at a1
  cases hk : tyK h1 d1 with
  | none => rw [hk] at a1; exact a1.elim
  | some k =>
    rw [hk] at a1
    refine ⟨v, _, _, _, isTB k b, rfl, .ty _, tyK_ok R1 r1 hk, kit_ty (kit_tb k b), ?_⟩
    have q := Aft.same (d := .bl _) a1 R1 (.bl _)
    simpa using q
theorem kitAny_tb {K : PySem.W.Frag} (k : TK) : ∀ bs : List BT, PySem.W.kitAny K (.type k.nm) (bs.map fun b => Value.type b.nm) = some (bs.any (isTB k))
  | [] => rfl
  | b :: bs => by
    have h := kit_ty (K := K) (kit_tb k b)
    simp only [List.map_cons, PySem.W.kitAny, h, List.any_cons]
    cases isTB k b with
    | true => rfl
    | false => simpa using kitAny_tb k bs
/-- isinstance(x, (A, B)) -/
theorem se_isi2 {b c : BT} {x y : Str} {x1} (hg : Gl X "isinstance") (hm : X.mg "isinstance" = none) (ha : SE T X W a f) (hb : PE X (.Name x p1) (tC (.ty b.nm))) (hc : PE X (.Name y p2) (tC (.ty c.nm)))
    (hs : starEach (a :: [.Tuple [.Name x p1, .Name y p2] x1 p3]) X.env = (false, eval a X.env) :: starEach [.Tuple [.Name x p1, .Name y p2] x1 p3] X.env := by rfl) :
    SE T X W (.Call (.Name "isinstance" p) [a, .Tuple [.Name x p1, .Name y p2] x1 p3] [] pos) (eUn (oIsi [b, c]) f) := by
  refine PE.imp (pe_callB call_isiT hg hm (by decide +kernel) (pa_cons ha (pa_cons (pe_tup (pa_cons hb (pa_cons hc pa_nil))) pa_nil) hs) (he := hs)) fun σ H Q q => ?_
  obtain ⟨ρ, e, h, R, E, a⟩ := tE.bind (f := f) (g := fun e x h1 => opt (oIsi [b, c] h1 x) h1) q
  refine ⟨ρ, e, h, R, E, a.mono fun v H1 ⟨ρ1, e1, d1, h1, b1, a1⟩ => ?_⟩
  obtain ⟨R1, E1, r1⟩ := b1
  refine ⟨by rw [sizeLine_eq]; exact (by decide : 2 ≤ 16777216), fun tp n => ?_⟩
  show rIsiT X.K [v, .ref tp] _ Q
  unfold oIsi at a1
  cases hk : tyK h1 d1 with
  | none => rw [hk] at a1; exact a1.elim
  | some k =>
    rw [hk] at a1
    have kp : Mv (sy T X) ρ1 H1 ρ1 (upd H1 tp (.tup [.ty b.nm, .ty c.nm])) := .side n
    refine ⟨v, tp, [.ty b.nm, .ty c.nm], _, [b, c].map fun b => Value.type b.nm, [b, c].any (isTB k), rfl, upd_same, .cons (.ty _) (.cons (.ty _) .nil), tyK_ok (R1.side n) (r1.mono kp) hk, kitAny_tb k _, ?_⟩
    exact a1 ρ1 _ _ (.side n) (R1.side n) (.bl _)
end
/-! ### subscripts -/
def oIx (h : Hea) (a b : Val) : Option Val := match b with
  | .int i => match itemsOf h a with
    | some xs => atI xs i
    | none => match a with
      | .str z => if z.length ≤ 16777216 then (atI z.cps.toList i).map fun c => .str ⟨#[c]⟩ else none
      | _ => none
  | _ => none
theorem Reps.atI {S : Sy} {ρ : Own} {H : Hp} {xs : List Val} {vs : List V} {i : Int} {d : Val} (r : Reps S ρ H xs vs) (e : atI xs i = some d) : ∃ v, L2.atI vs i = some v ∧ Rep S ρ H d v := by
  unfold L2.atI at e ⊢
  rw [← r.length]
  cases q : ixN xs.length i with
  | none => rw [q] at e; cases e
  | some j =>
    rw [q] at e
    exact r.get e
section
variable {T : Tb} {X : Cx} {W : WX} {a b : Expr} {f1 f2 : En → Hea → Res Val} {pos p p1 p2 p3 : Pos}
theorem IxR.imp {r r' : R2} (p : IxR X r) (h : ∀ x y H Q, r' x y H Q → r x y H Q) : IxR X r' := fun value slice pins s σ H x y v u Q I rx ry q e => p value slice pins s σ H x y v u Q I rx ry (h x y H Q q) e
theorem o_ix : IxR X (rB (sy T X) oIx) := IxR.imp (IxR.or ix_list (IxR.or ix_tup ix_str)) fun x y H Q h => by
  obtain ⟨ρ, h, d1, d2, R, r1, r2, a⟩ := h
  cases d2 with
  | int i =>
    obtain rfl := r2.int_
    simp only [oIx] at a
    cases hx : itemsOf h d1 with
    | some xs =>
      rw [hx] at a
      obtain ⟨p, us, rfl, sq, rr⟩ := items_sq R r1 hx
      cases e : L2.atI xs i with
      | none => simp only [e] at a; exact a.elim
      | some d =>
        simp only [e] at a
        obtain ⟨v, e1, r⟩ := rr.atI e
        rcases sq with sq | sq
        · exact .inr (.inl ⟨p, us, i, v, rfl, rfl, sq, e1, Aft.same (d := d) a R r⟩)
        · exact .inl ⟨p, us, i, v, rfl, rfl, sq, e1, Aft.same (d := d) a R r⟩
    | none =>
      rw [hx] at a
      cases d1 with
      | str z =>
        obtain rfl := r1.str_
        simp only at a
        split at a
        · rename_i hz
          cases e : L2.atI z.cps.toList i with
          | none => rw [e] at a; exact a.elim
          | some c =>
            rw [e] at a
            exact .inr (.inr ⟨z, i, c, rfl, rfl, by rw [sizeLine_eq]; exact hz, e, Aft.same (d := .str _) a R (.str _)⟩)
        · exact a.elim
      | _ => exact a.elim
  | _ => exact a.elim
theorem se_ix (ha : SE T X W a f1) (hb : SE T X W b f2) (hs : PlainIx b := by intro _ _; rfl) : SE T X W (.Subscript a b pos) (eBin oIx f1 f2) := (pe_ix o_ix ha hb hs).imp fun σ H Q q => bin_imp q
end
end Lad
end
/-! ## LadSt -/
section
set_option maxRecDepth 100000
set_option maxHeartbeats 1000000
namespace Lad
open PySem L2
abbrev SSt (T : Tb) (X : Cx) (W : WX) (s : Stmt) (f : En → Hea → SRes) : Prop := PS X s (tS (sy T X) W f)
abbrev SSs (T : Tb) (X : Cx) (W : WX) (s : List Stmt) (f : En → Hea → SRes) : Prop := PSs X s (tS (sy T X) W f)
/-! ### statements -/
def ofR {α : Type} (r : Res α) (e : En) (k : α → Hea → SRes) : SRes := match r with
  | .ok a h => k a h
  | .exc c d h => .exc c d e h
  | .stuck => .stuck
section
variable {S : Sy} {W : WX} {H : Hp} {D : Ends} {ρ : Own} {σ : St} {e : En}
theorem AftS.ofR {r : Res Val} {k : Val → Hea → SRes} (a : AftS S ρ H (ofR r e k) D W) (E : ER S ρ H e σ) :
    Aft S ρ H r (fun v H1 => ∃ ρ1 d h1, Go S ρ H ρ1 H1 ∧ Rel S ρ1 h1 H1 ∧ Rep S ρ1 H1 d v ∧ ER S ρ1 H1 e σ ∧ AftS S ρ1 H1 (k d h1) D W) (fun c d H' => W c d σ H') := by
  cases r with
  | ok d h => exact fun ρ1 v H1 s R r => ⟨ρ1, d, h, s, R, r, E.go s, AftS.later (r := k d h) a s⟩
  | exc c d h => exact fun ρ1 v H1 dx s R r x => a ρ1 v σ H1 dx s R r (E.go s) x
  | stuck => exact a
theorem AftS.ofA {r : Res (List Val)} {k : List Val → Hea → SRes} (a : AftS S ρ H (Lad.ofR r e k) D W) (E : ER S ρ H e σ) :
    AftA S ρ H r (fun v H1 => ∃ ρ1 d h1, Go S ρ H ρ1 H1 ∧ Rel S ρ1 h1 H1 ∧ Reps S ρ1 H1 d v ∧ ER S ρ1 H1 e σ ∧ AftS S ρ1 H1 (k d h1) D W) (fun c d H' => W c d σ H') := by
  cases r with
  | ok d h => exact fun ρ1 v H1 s R r => ⟨ρ1, d, h, s, R, r, E.go s, AftS.later (r := k d h) a s⟩
  | exc c d h => exact fun ρ1 v H1 dx s R r x => a ρ1 v σ H1 dx s R r (E.go s) x
  | stuck => exact a
end
def sNil : En → Hea → SRes := fun e h => .nx e h
def sSeq (f g : En → Hea → SRes) : En → Hea → SRes := fun e h => match f e h with
  | .nx e1 h1 => g e1 h1
  | r => r
def sSet (i : Nat) (f : En → Hea → Res Val) : En → Hea → SRes := fun e h => ofR (f e h) e fun d h1 => .nx (e.set i (some d)) h1
def sRet (f : En → Hea → Res Val) : En → Hea → SRes := fun e h => ofR (f e h) e fun d h1 => .rt d h1
def sRetN : En → Hea → SRes := fun _ h => .rt .non h
def sEx (f : En → Hea → Res Val) : En → Hea → SRes := fun e h => ofR (f e h) e fun _ h1 => .nx e h1
def sIf (f : En → Hea → Res Val) (s1 s2 : En → Hea → SRes) : En → Hea → SRes := fun e h => ofR (f e h) e fun d h1 => match d with
  | .bl true => s1 e h1
  | .bl false => s2 e h1
  | _ => .stuck
/-- targets -/
def gN (i : Nat) : Val → En → Option En := fun v e => some (e.set i (some v))
def setAll : List Nat → List Val → En → Option En
  | [], [], e => some e
  | i :: is, v :: vs, e => setAll is vs (e.set i (some v))
  | _, _, _ => none
def gT (is : List Nat) : Val → En → Option En := fun v e => match v with
  | .tup xs => setAll is xs e
  | _ => none
def sAsg (g : Val → En → Option En) (f : En → Hea → Res Val) : En → Hea → SRes := fun e h => ofR (f e h) e fun d h1 => match g d e with
  | some e1 => .nx e1 h1
  | none => .stuck
/-- a, b, .. = x, y, ..: a display -/
def sPar (is : List Nat) (f : En → Hea → Res (List Val)) : En → Hea → SRes := fun e h => ofR (f e h) e fun ds h1 => match setAll is ds e with
  | some e1 => .nx e1 h1
  | none => .stuck
/-- targets by HandS's readings -/
def GOk (S : Sy) (vs : List Nat) (g : TG) (b : Val → En → Option En) : Prop :=
  ∀ (ρ : Own) (H : Hp) (h : Hea) (e : En) (σ : St) (d : Val) (v : V) (e' : En) (Q : St → Hp → Prop), Rel S ρ h H → ER S ρ H e σ → Rep S ρ H d v → b d e = some e' → (∀ σ', ER S ρ H e' σ' → wipe σ' vs = wipe σ vs → Q σ' H) → g v σ H Q
theorem wipe_set {σ : St} {i : Nat} {o : Option V} : ∀ {vs : List Nat}, i ∈ vs → wipe (σ.set i o) vs = wipe σ vs
  | v :: vs, h => by
    unfold wipe
    by_cases hm : i ∈ vs
    · rw [wipe_set hm]
    · have e : i = v := by
        rcases List.mem_cons.mp h with z | z
        · exact z
        · exact absurd z hm
      subst e
      have key : ∀ ws : List Nat, i ∉ ws → (wipe (σ.set i o) ws).set i none = (wipe σ ws).set i none := by
        intro ws
        induction ws with
        | nil => intro _; show (σ.set i o).set i none = σ.set i none; rw [List.set_set]
        | cons w ws ih =>
          intro hw
          have h1 : i ≠ w := fun z => hw (by rw [z]; exact List.mem_cons_self)
          have h2 : i ∉ ws := fun z => hw (List.mem_cons_of_mem _ z)
          show ((wipe (σ.set i o) ws).set w none).set i none = ((wipe σ ws).set w none).set i none
          rw [List.set_comm _ _ (Ne.symm h1), ih h2, List.set_comm _ _ h1]
      exact key vs hm
theorem gok_name {S : Sy} {i : Nat} {vs : List Nat} (hi : i ∈ vs) : GOk S vs (gName i) (gN i) := fun ρ H h e σ d v e' Q R E r b q => by
  cases b
  exact q _ (E.set r i) (wipe_set hi)
def gsNames : List Nat → TGs
  | [] => gNil
  | i :: is => gCons (gName i) (gsNames is)
theorem gs_names {S : Sy} {ρ : Own} {H : Hp} {vs : List Nat} : ∀ (is : List Nat) (e : En) (σ : St) (ds : List Val) (us : List V) (e' : En) (Q : St → Hp → Prop), (∀ i ∈ is, i ∈ vs) → ER S ρ H e σ → Reps S ρ H ds us → setAll is ds e = some e' → (∀ σ', ER S ρ H e' σ' → wipe σ' vs = wipe σ vs → Q σ' H) → gsNames is us σ H Q
  | [], e, σ, [], [], e', Q, _, E, .nil, b, q => by cases b; exact ⟨rfl, q _ E rfl⟩
  | [], e, σ, d :: ds, u :: us, e', Q, _, E, .cons _ _, b, q => by cases b
  | i :: is, e, σ, [], [], e', Q, _, E, .nil, b, q => by cases b
  | i :: is, e, σ, d :: ds, u :: us, e', Q, hv, E, .cons r t, b, q => by
    refine ⟨u, us, rfl, ?_⟩
    refine gs_names is _ _ ds us e' Q (fun j hj => hv j (List.mem_cons_of_mem _ hj)) (E.set r i) t b fun σ' E' w => q σ' E' ?_
    rw [w, wipe_set (hv i List.mem_cons_self)]
theorem setAll_len : ∀ {is : List Nat} {ds : List Val} {e e' : En}, setAll is ds e = some e' → ds.length = is.length
  | [], [], _, _, _ => rfl
  | _ :: is, _ :: ds, _, _, h => congrArg (· + 1) (setAll_len (is := is) h)
  | [], _ :: _, _, _, h => by cases h
  | _ :: _, [], _, _, h => by cases h
theorem gok_tup {S : Sy} {is vs : List Nat} (hi : ∀ i ∈ is, i ∈ vs) : GOk S vs (gTup S.K is.length (gsNames is)) (gT is) := fun ρ H h e σ d v e' Q R E r b q => by
  unfold gT at b
  split at b
  · obtain ⟨a, us, rfl, sq, rr⟩ := r.tup_
    refine ⟨a, us, rfl, sq, ?_, gs_names is e σ _ us e' Q hi E rr b q⟩
    rw [← rr.length]
    exact setAll_len b
  · cases b
section
variable {T : Tb} {X : Cx} {W : WX} {a b c : Expr} {f : En → Hea → Res Val} {s : Stmt} {ss s1 s2 : List Stmt} {g g1 g2 : En → Hea → SRes} {pos : Pos}
theorem ss_nil : SSs T X W [] sNil := pss_nil.imp fun D σ H q => by
  obtain ⟨ρ, e, h, R, E, a⟩ := q
  exact a ρ σ H .rfl R E
theorem ss_one (h : SSt T X W s g) : SSs T X W [s] g := pss_one h
theorem ss_cons (h1 : SSt T X W s g1) (h2 : SSs T X W ss g2) : SSs T X W (s :: ss) (sSeq g1 g2) := (pss_cons h1 h2).imp fun D σ H q => by
  obtain ⟨ρ, e, h, R, E, a⟩ := q
  refine ⟨ρ, e, h, R, E, ?_⟩
  unfold sSeq at a
  revert a
  cases g1 e h with
  | nx e1 h1 => exact fun a ρ1 σ1 H1 s R1 E1 => ⟨ρ1, e1, h1, R1, E1, AftS.later (r := g2 e1 h1) a s⟩
  | rt v h1 => exact id
  | bk e1 h1 => exact id
  | ct e1 h1 => exact id
  | exc c d e1 h1 => exact id
  | stuck => exact id
theorem st_set {i : Nat} {x : Str} {pos' : Pos} (hN : X.N.Nodup) (hi : X.N[i]? = some x) (hx : Loc X.env.scope x) (ha : SE T X W a f) (hs : swapsWith a (some (.Name x pos')) pos.line X.env = pure false := by rfl)
    (hf : X.fn x = true ∨ X.env.scope.names.lookup x = some .local := by first | exact .inl rfl | exact .inr rfl) : SSt T X W (.Assign [.Name x pos'] a pos) (sSet i f) := (ps_set hN hi hx ha hs hf).imp fun D σ H q => by
  obtain ⟨ρ, e, h, R, E, a⟩ := q
  exact ⟨ρ, e, h, R, E, (a.ofR E).mono fun v H1 ⟨ρ1, d, h1, s, R1, r, E1, a1⟩ => a1 ρ1 _ H1 .rfl R1 (E1.set r i)⟩
theorem st_ret (ha : SE T X W a f) : SSt T X W (.Return (some a) pos) (sRet f) := (ps_ret ha).imp fun D σ H q => by
  obtain ⟨ρ, e, h, R, E, a⟩ := q
  exact ⟨ρ, e, h, R, E, (a.ofR E).mono fun v H1 ⟨ρ1, d, h1, s, R1, r, E1, a1⟩ => a1 ρ1 _ H1 .rfl R1 r⟩
theorem st_retN : SSt T X W (.Return none pos) sRetN := ps_retN.imp fun D σ H q => by
  obtain ⟨ρ, e, h, R, E, a⟩ := q
  exact a ρ _ H .rfl R .non
theorem st_ex (ha : SE T X W a f) (hs : swapsWith a none pos.line X.env = pure false := by rfl) : SSt T X W (.Expr a pos) (sEx f) := (ps_expr ha hs).imp fun D σ H q => by
  obtain ⟨ρ, e, h, R, E, a⟩ := q
  exact ⟨ρ, e, h, R, E, (a.ofR E).mono fun v H1 ⟨ρ1, d, h1, s, R1, r, E1, a1⟩ => a1 ρ1 _ H1 .rfl R1 E1⟩
theorem st_pass : SSt T X W (.Pass pos) sNil := ps_pass.imp fun D σ H q => by
  obtain ⟨ρ, e, h, R, E, a⟩ := q
  exact a ρ σ H .rfl R E
theorem st_if (hc : ST T X W c f) (h1 : SSs T X W s1 g1) (h2 : SSs T X W s2 g2) : SSt T X W (.If c s1 s2 pos) (sIf f g1 g2) := (ps_if hc h1 h2).imp fun D σ H q => by
  obtain ⟨ρ, e, h, R, E, a⟩ := q
  refine ⟨ρ, e, h, R, E, (a.ofR E).mono fun v H1 ⟨ρ1, d, h1, s, R1, r, E1, a1⟩ => ?_⟩
  split at a1
  · obtain rfl := r.bl_
    refine ⟨true, rfl, ?_⟩
    refine itT rfl ?_
    exact ⟨ρ1, e, h1, R1, E1, a1⟩
  · obtain rfl := r.bl_
    refine ⟨false, rfl, ?_⟩
    refine itF rfl ?_
    exact ⟨ρ1, e, h1, R1, E1, a1⟩
  · exact a1.elim
theorem st_asg {tg : Expr} {g : TG} {b : Val → En → Option En} {vs : List Nat} (hg : PG X tg g) (ok : GOk (sy T X) vs g b) (ha : SE T X W a f) (hs : swapsWithSole [tg] a pos.line X.env = pure false := by rfl) (hw : swappedStores [tg] a X.env = pure none := by rfl)
    (h1 : (assignEach [tg] X.env).map (·.2) = [assign tg X.env] := by rfl) : SSt T X W (.Assign [tg] a pos) (sAsg b f) := (ps_asg ha hg hs hw h1).imp fun D σ H q => by
  obtain ⟨ρ, e, h, R, E, a⟩ := q
  refine ⟨ρ, e, h, R, E, (a.ofR E).mono fun v H1 ⟨ρ1, d, h1, s, R1, r, E1, a1⟩ => ?_⟩
  split at a1
  · rename_i e1 he
    exact ok ρ1 H1 h1 e σ d v e1 D.nx R1 E1 r he fun σ' E' _ => a1 ρ1 _ H1 .rfl R1 E'
  · exact a1.elim
theorem st_par2 {i j : Nat} {x y : Str} {g : En → Hea → Res (List Val)} {px py pt : Pos} {kt k2 pt2} (hc : X.calm = true) (hN : X.N.Nodup) (hi : X.N[i]? = some x) (hj : X.N[j]? = some y) (hij : i ≠ j)
    (hx : X.env.scope.names.lookup x = some .local) (hy : X.env.scope.names.lookup y = some .local) (ha : SA T X W [a, b] g)
    (hw : swappedStores [.Tuple [.Name x px, .Name y py] kt pt] (.Tuple [a, b] k2 pt2) X.env = pure (some [x, y]))
    (hs : swapsWithSole [.Tuple [.Name x px, .Name y py] kt pt] (.Tuple [a, b] k2 pt2) pos.line X.env = pure false := by rfl) :
    SSt T X W (.Assign [.Tuple [.Name x px, .Name y py] kt pt] (.Tuple [a, b] k2 pt2) pos) (sPar [i, j] g) := (ps_par hc hN hi hj hij hx hy ha hw hs).imp fun D σ H q => by
  obtain ⟨ρ, e, h, R, E, a⟩ := q
  refine ⟨ρ, e, h, R, E, (a.ofA E).mono fun v H1 ⟨ρ1, d, h1, s, R1, r, E1, a1⟩ => ?_⟩
  split at a1
  · rename_i e1 he
    have hl := setAll_len he
    match d, v, r, hl with
    | [d1, d2], [v1, v2], .cons r1 (.cons r2 .nil), _ =>
      cases he
      exact ⟨v1, v2, rfl, a1 ρ1 _ H1 .rfl R1 ((E1.set r1 i).set r2 j)⟩
  · exact a1.elim
end
/-! ### what a loop walks -/
structure Src where
  item : Nat → Hea → Option (Option Val)
  fuel : Nat
def srcFix (xs : List Val) : Src := ⟨fun k _ => if k ≤ xs.length then some xs[k]? else none, xs.length + 1⟩
def srcLive (i : Nat) : Src := ⟨fun k h => (lstAt h i).map fun xs => xs[k]?, 100000⟩
def JOk (S : Sy) (ρ : Own) (H : Hp) (J : It) (it : Nat → Hea → Option (Option Val)) : Prop :=
  ∀ (ρ' : Own) (H' : Hp) (h' : Hea), Mv S ρ H ρ' H' → Rel S ρ' h' H' → ∀ k, match it k h' with
    | some none => J.stop k H'
    | some (some d) => J.go k H' ∧ ∀ x H'', J.yld k H' x H'' → Go S ρ' H' ρ' H'' ∧ Rel S ρ' h' H'' ∧ Rep S ρ' H'' d x
    | none => True
def AftI (S : Sy) (ρ : Own) (H : Hp) (r : Res Src) (R : It → Hp → Prop) (W : XK) : Prop := match r with
  | .ok s h' => ∀ ρ' H' J, Go S ρ H ρ' H' → Rel S ρ' h' H' → JOk S ρ' H' J s.item → R J H'
  | .exc c d h' => ∀ ρ' v H' dx, Go S ρ H ρ' H' → Rel S ρ' h' H' → Rep S ρ' H' d v → H' dx = some (.xd [(S.fld c, v)]) → W (.ref (S.ca c)) (some dx) H'
  | .stuck => False
def tI (S : Sy) (W : WX) (f : En → Hea → Res Src) : TI := fun σ H R => ∃ ρ e h, Rel S ρ h H ∧ ER S ρ H e σ ∧ AftI S ρ H (f e h) R (fun c d H' => W c d σ H')
abbrev SI (T : Tb) (X : Cx) (W : WX) (tg iter : Expr) (f : En → Hea → Res Src) : Prop := PI X tg iter (tI (sy T X) W f)
theorem _root_.L2.PI.imp {X : Cx} {tg e : Expr} {t t' : TI} (p : PI X tg e t) (h : ∀ σ H Q, t' σ H Q → t σ H Q) : PI X tg e t' := ⟨fun pins s σ H Q I q => p.run pins s σ H Q I (h σ H Q q)⟩
section
variable {S : Sy} {H : Hp} {ρ : Own}
theorem AftI.mono {r : Res Src} {R R' : It → Hp → Prop} {W : XK} (a : AftI S ρ H r R W) (h : ∀ v H', R v H' → R' v H') : AftI S ρ H r R' W := by
  cases r with
  | ok d h' => exact fun ρ1 H1 J s R j => h _ _ (a ρ1 H1 J s R j)
  | exc c d h' => exact a
  | stuck => exact a
theorem AftI.later {ρ1 : Own} {H1 : Hp} {r : Res Src} {R : It → Hp → Prop} {W : XK} (a : AftI S ρ H r R W) (s : Go S ρ H ρ1 H1) : AftI S ρ1 H1 r R W := by
  cases r with
  | ok d h' => exact fun ρ2 H2 J s2 => a ρ2 H2 J (s.trans s2)
  | exc c d h' => exact fun ρ2 v H2 dx s2 => a ρ2 v H2 dx (s.trans s2)
  | stuck => exact a
theorem AftI.bind {r : Res Val} {k : Val → Hea → Res Src} {R : It → Hp → Prop} {W : XK} (a : AftI S ρ H (r.bind k) R W) :
    Aft S ρ H r (fun v H1 => ∃ ρ1 d h1, Go S ρ H ρ1 H1 ∧ Rel S ρ1 h1 H1 ∧ Rep S ρ1 H1 d v ∧ AftI S ρ1 H1 (k d h1) R W) W := by
  cases r with
  | ok d h => exact fun ρ1 v H1 s R r => ⟨ρ1, d, h, s, R, r, AftI.later (r := k d h) a s⟩
  | exc c d h => exact a
  | stuck => exact a
theorem AftI.bindA {r : Res (List Val)} {k : List Val → Hea → Res Src} {R : It → Hp → Prop} {W : XK} (a : AftI S ρ H (r.bind k) R W) :
    AftA S ρ H r (fun v H1 => ∃ ρ1 d h1, Go S ρ H ρ1 H1 ∧ Rel S ρ1 h1 H1 ∧ Reps S ρ1 H1 d v ∧ AftI S ρ1 H1 (k d h1) R W) W := by
  cases r with
  | ok d h => exact fun ρ1 v H1 s R r => ⟨ρ1, d, h, s, R, r, AftI.later (r := k d h) a s⟩
  | exc c d h => exact a
  | stuck => exact a
theorem AftI.bindL {r : Res (List Val)} {k : List Val → Hea → Res Src} {R : It → Hp → Prop} {W : XK} (a : AftI S ρ H (r.bind k) R W) :
    AftL S ρ H r (fun v H1 => ∃ ρ1 d h1 p vs, Go S ρ H ρ1 H1 ∧ Rel S ρ1 h1 H1 ∧ v = .ref p ∧ H1 p = some (.lst vs) ∧ Fz ρ1 p ∧ Reps S ρ1 H1 d vs ∧ AftI S ρ1 H1 (k d h1) R W) W := by
  cases r with
  | ok d h => exact fun ρ1 p v H1 s R e n z r _ => ⟨ρ1, d, h, p, v, s, R, rfl, e, n, r, AftI.later (r := k d h) a s⟩
  | exc c d h => exact a
  | stuck => exact a
theorem jfix {J : It} {xs : List Val} (w : ∀ (ρ' : Own) (H' : Hp) (h' : Hea), Mv S ρ H ρ' H' → Rel S ρ' h' H' → ∀ k, k ≤ xs.length → match some xs[k]? with
    | some none => J.stop k H'
    | some (some d) => J.go k H' ∧ ∀ x H'', J.yld k H' x H'' → Go S ρ' H' ρ' H'' ∧ Rel S ρ' h' H'' ∧ Rep S ρ' H'' d x
    | none => True) : JOk S ρ H J (srcFix xs).item := fun ρ' H' h' g R k => by
  show match (if k ≤ xs.length then some xs[k]? else none) with | some none => _ | some (some d) => _ | none => _
  by_cases hk : k ≤ xs.length
  · rw [if_pos hk]
    exact w ρ' H' h' g R k hk
  · rw [if_neg hk]
    exact True.intro
/-- a tuple -/
theorem j_tup {a : Addr} {xs : List Val} {vs : List V} (sq : SqT S.K H a vs) (r : Reps S ρ H xs vs) : JOk S ρ H (Itt S.K a) (srcFix xs).item := jfix fun ρ' H' h' g R k _ => by
  have sq' := g.kp.1 _ _ sq
  have r' := r.mono g
  show match some xs[k]? with | some none => _ | some (some d) => _ | none => _
  cases e : xs[k]? with
  | none =>
    have hk : xs.length ≤ k := List.getElem?_eq_none_iff.mp e
    exact ⟨vs, sq', by rw [← r.length]; exact hk⟩
  | some d =>
    obtain ⟨v, ev, rv⟩ := r'.get e
    refine ⟨⟨vs, v, sq', ev⟩, fun x H'' ⟨eh, q⟩ => ?_⟩
    subst eh
    have z := q vs sq'
    rw [ev] at z
    cases z
    exact ⟨.rfl, R, rv⟩
/-- a list that nothing else holds -/
theorem j_tmp {a : Addr} {xs : List Val} {vs : List V} (sq : H a = some (.lst vs)) (n : Fz ρ a) (r : Reps S ρ H xs vs) : JOk S ρ H (Itl S.K a) (srcFix xs).item := jfix fun ρ' H' h' g R k _ => by
  have e' := (g.fz _ _ sq n).1
  have sq' : SqL S.K H' a vs := .inl (.inl e')
  have r' := r.mono g
  show match some xs[k]? with | some none => _ | some (some d) => _ | none => _
  cases e : xs[k]? with
  | none =>
    have hk : xs.length ≤ k := List.getElem?_eq_none_iff.mp e
    exact ⟨vs, sq', by rw [← r.length]; exact hk⟩
  | some d =>
    obtain ⟨v, ev, rv⟩ := r'.get e
    refine ⟨⟨vs, v, sq', ev⟩, fun x H'' ⟨eh, q⟩ => ?_⟩
    subst eh
    have z := q vs sq'
    rw [ev] at z
    cases z
    exact ⟨.rfl, R, rv⟩
/-- a list of the heap, as it stands at each turn -/
theorem j_live {a : Addr} {i : Nat} (ea : ρ.nm[i]? = some a) : JOk S ρ H (Itl S.K a) (srcLive i).item := fun ρ' H' h' g R k => by
  show match (lstAt h' i).map fun xs => xs[k]? with | some none => _ | some (some d) => _ | none => _
  cases el : lstAt h' i with
  | none => exact True.intro
  | some xs =>
    obtain ⟨vs, sq', r'⟩ := R.lst el (g.sub _ _ ea)
    show match some xs[k]? with | some none => _ | some (some d) => _ | none => _
    cases e : xs[k]? with
    | none =>
      have hk : xs.length ≤ k := List.getElem?_eq_none_iff.mp e
      exact ⟨vs, sq', by rw [← r'.length]; exact hk⟩
    | some d =>
      obtain ⟨v, ev, rv⟩ := r'.get e
      refine ⟨⟨vs, v, sq', ev⟩, fun x H'' ⟨eh, q⟩ => ?_⟩
      subst eh
      have z := q vs sq'
      rw [ev] at z
      cases z
      exact ⟨.rfl, R, rv⟩
def rangeV (lo : Int) (n : Nat) : List Val := (List.range n).map fun (i : Nat) => Val.int (lo + (i : Int))
theorem j_range {lo : Int} {n : Nat} : JOk S ρ H (Itr lo n) (srcFix (rangeV lo n)).item := jfix fun ρ' H' h' g R k _ => by
  show match some (rangeV lo n)[k]? with | some none => _ | some (some d) => _ | none => _
  by_cases hk : k < n
  · have e : (rangeV lo n)[k]? = some (.int (lo + (k : Int))) := by
      unfold rangeV
      rw [List.getElem?_map, List.getElem?_range hk]
      rfl
    rw [e]
    refine ⟨hk, fun x H'' ⟨eh, q⟩ => ?_⟩
    subst eh q
    exact ⟨.rfl, R, .int _⟩
  · have e : (rangeV lo n)[k]? = none := by
      unfold rangeV
      rw [List.getElem?_eq_none_iff]
      simpa using hk
    rw [e]
    exact Nat.le_of_not_lt hk
end
/-- sources -/
def iVal (f : En → Hea → Res Val) : En → Hea → Res Src := fun e h => (f e h).bind fun d h1 => match d with
  | .ref i => if (lstAt h1 i).isSome = true then .ok (srcLive i) h1 else .stuck
  | .lst xs => .ok (srcFix xs) h1
  | _ => .stuck
def iTupV (f : En → Hea → Res Val) : En → Hea → Res Src := fun e h => (f e h).bind fun d h1 => match d with
  | .tup xs => .ok (srcFix xs) h1
  | _ => .stuck
def iTmp (f : En → Hea → Res (List Val)) : En → Hea → Res Src := fun e h => (f e h).bind fun xs h1 => .ok (srcFix xs) h1
def rngOk (i : Int) : Bool := decide (-(2 ^ 62) ≤ i ∧ i < 2 ^ 62)
def iRng1V (f : En → Hea → Res (List Val)) : En → Hea → Res Src := fun e h => (f e h).bind fun ds h1 => match ds with
  | [.int j] => if rngOk j = true then .ok (srcFix (rangeV 0 j.toNat)) h1 else .stuck
  | _ => .stuck
def iRng2V (f : En → Hea → Res (List Val)) : En → Hea → Res Src := fun e h => (f e h).bind fun ds h1 => match ds with
  | [.int i, .int j] => if (rngOk i && rngOk j) = true then .ok (srcFix (rangeV i (j - i).toNat)) h1 else .stuck
  | _ => .stuck
section
variable {T : Tb} {X : Cx} {W : WX} {tg a b c : Expr} {f : En → Hea → Res Val} {g : En → Hea → Res (List Val)} {pos p : Pos}
theorem si_val (ha : SE T X W a f) : SI T X W tg a (iVal f) := (pi_list ha).imp fun σ H Q q => by
  obtain ⟨ρ, e, h, R, E, a⟩ := q
  refine ⟨ρ, e, h, R, E, (AftI.bind a).mono fun v H1 ⟨ρ1, d, h1, s, R1, r, a1⟩ => ?_⟩
  split at a1
  · obtain ⟨p, rfl, ea⟩ := r.ref_
    split at a1
    · rename_i i hs
      obtain ⟨xs, hx⟩ := Option.isSome_iff_exists.mp hs
      obtain ⟨vs, sq, _⟩ := R1.lst hx ea
      exact ⟨p, rfl, ⟨vs, sq⟩, a1 ρ1 H1 _ .rfl R1 (j_live ea)⟩
    · exact a1.elim
  · cases r with
    | lst f h1 h2 => exact ⟨_, rfl, ⟨_, .inl (.inl h1)⟩, a1 ρ1 H1 _ .rfl R1 (j_tmp h1 f h2)⟩
  · exact a1.elim
theorem si_tup (ha : SE T X W a f) : SI T X W tg a (iTupV f) := (pi_tup ha).imp fun σ H Q q => by
  obtain ⟨ρ, e, h, R, E, a⟩ := q
  refine ⟨ρ, e, h, R, E, (AftI.bind a).mono fun v H1 ⟨ρ1, d, h1, s, R1, r, a1⟩ => ?_⟩
  split at a1
  · obtain ⟨p, vs, rfl, sq, rr⟩ := r.tup_
    exact ⟨p, rfl, ⟨vs, sq⟩, a1 ρ1 H1 _ .rfl R1 (j_tup sq rr)⟩
  · exact a1.elim
theorem si_tmp (ha : SL T X W a g) : SI T X W tg a (iTmp g) := (pi_list ha).imp fun σ H Q q => by
  obtain ⟨ρ, e, h, R, E, a⟩ := q
  refine ⟨ρ, e, h, R, E, (AftI.bindL a).mono fun v H1 ⟨ρ1, d, h1, p, vs, s, R1, ev, el, n, r, a1⟩ => ?_⟩
  subst ev
  exact ⟨p, rfl, ⟨vs, .inl (.inl el)⟩, a1 ρ1 H1 _ .rfl R1 (j_tmp el n r)⟩
theorem si_range1 (hg : Gl X "range") (hm : X.mg "range" = none) (ha : SA T X W [a] g) (hs : starEach [a] X.env = [(false, eval a X.env)] := by rfl) : SI T X W tg (.Call (.Name "range" p) [a] [] pos) (iRng1V g) := (pi_range1 hg hm ha hs).imp fun σ H Q q => by
  obtain ⟨ρ, e, h, R, E, a⟩ := q
  refine ⟨ρ, e, h, R, E, (AftI.bindA a).mono fun v H1 ⟨ρ1, d, h1, s, R1, r, a1⟩ => ?_⟩
  split at a1
  · obtain rfl := Reps.ints (ns := [_]) r
    split at a1
    · rename_i hr
      have hr := of_decide_eq_true hr
      exact ⟨_, rfl, hr.1, hr.2, a1 ρ1 H1 _ .rfl R1 j_range⟩
    · exact a1.elim
  · exact a1.elim
theorem si_range2 (hg : Gl X "range") (hm : X.mg "range" = none) (ha : SA T X W [a, b] g) (hs : starEach [a, b] X.env = [(false, eval a X.env), (false, eval b X.env)] := by rfl) (hs2 : starEach [b] X.env = [(false, eval b X.env)] := by rfl) :
    SI T X W tg (.Call (.Name "range" p) [a, b] [] pos) (iRng2V g) := (pi_range2 hg hm ha hs hs2).imp fun σ H Q q => by
  obtain ⟨ρ, e, h, R, E, a⟩ := q
  refine ⟨ρ, e, h, R, E, (AftI.bindA a).mono fun v H1 ⟨ρ1, d, h1, s, R1, r, a1⟩ => ?_⟩
  split at a1
  · obtain rfl := Reps.ints (ns := [_, _]) r
    split at a1
    · rename_i hr
      rw [Bool.and_eq_true] at hr
      have h1 := of_decide_eq_true hr.1
      have h2 := of_decide_eq_true hr.2
      exact ⟨_, _, rfl, ⟨h1.1, h1.2, h2.1, h2.2⟩, a1 ρ1 H1 _ .rfl R1 j_range⟩
    · exact a1.elim
  · exact a1.elim
end
/-! ### for -/
def forG (it : Nat → Hea → Option (Option Val)) (b : Val → En → Option En) (body : En → Hea → SRes) : Nat → Nat → En → Hea → SRes
  | 0, _, _, _ => .stuck
  | n + 1, k, e, h => match it k h with
    | some none => .nx e h
    | some (some v) => match b v e with
      | some e1 => match body e1 h with
        | .nx e2 h2 => forG it b body n (k + 1) e2 h2
        | .ct e2 h2 => forG it b body n (k + 1) e2 h2
        | .bk e2 h2 => .nx e2 h2
        | r => r
      | none => .stuck
    | none => .stuck
def sFor (src : En → Hea → Res Src) (b : Val → En → Option En) (body : En → Hea → SRes) : En → Hea → SRes := fun e h => ofR (src e h) e fun s h1 => forG s.item b body s.fuel 0 e h1
/-! ### while -/
def whG (t : En → Hea → Res Val) (body : En → Hea → SRes) : Nat → En → Hea → SRes
  | 0, _, _ => .stuck
  | n + 1, e, h => ofR (t e h) e fun d h1 => match d with
    | .bl true => match body e h1 with
      | .nx e2 h2 => whG t body n e2 h2
      | .ct e2 h2 => whG t body n e2 h2
      | .bk e2 h2 => .nx e2 h2
      | r => r
    | .bl false => .nx e h1
    | _ => .stuck
def sWhile (fuel : Nat) (t : En → Hea → Res Val) (body : En → Hea → SRes) : En → Hea → SRes := fun e h => whG t body fuel e h
section
variable {S : Sy} {W : WX} {H : Hp} {D : Ends} {ρ : Own} {σ : St} {e : En}
theorem AftS.ofI {r : Res Src} {k : Src → Hea → SRes} (a : AftS S ρ H (Lad.ofR r e k) D W) (E : ER S ρ H e σ) :
    AftI S ρ H r (fun J H1 => ∃ ρ1 d h1, Go S ρ H ρ1 H1 ∧ Rel S ρ1 h1 H1 ∧ JOk S ρ1 H1 J d.item ∧ ER S ρ1 H1 e σ ∧ AftS S ρ1 H1 (k d h1) D W) (fun c d H' => W c d σ H') := by
  cases r with
  | ok d h => exact fun ρ1 H1 J s R r => ⟨ρ1, d, h, s, R, r, E.go s, AftS.later (r := k d h) a s⟩
  | exc c d h => exact fun ρ1 v H1 dx s R r x => a ρ1 v σ H1 dx s R r (E.go s) x
  | stuck => exact a
end
section
variable {T : Tb} {X : Cx} {W : WX} {tg a : Expr} {src : En → Hea → Res Src} {f : En → Hea → Res Val} {body : List Stmt} {fb : En → Hea → SRes} {g : TG} {b : Val → En → Option En} {vs : List Nat} {pos : Pos}
theorem st_for (hp : PassesOwn (model X.prog X.w) X.A X.env X.xe) (hc : X.calm = true) (hi : SI T X W tg a src) (hg : PG X tg g) (ok : GOk (sy T X) vs g b) (hb : SSs T X W body fb) (hs : ∀ x, foldedSetIterable a X.env x = pure x := by intro _; rfl) :
    SSt T X W (.For tg a body [] pos) (sFor src b fb) := by
  refine PS.imp (ps_for hp hc hi hg hb hs) fun D σ H q => ?_
  obtain ⟨ρ, e, h, R, E, a⟩ := q
  refine ⟨ρ, e, h, R, E, (a.ofI E).mono fun J H1 ⟨ρ1, d, h1, s, R1, j, E1, a1⟩ => ?_⟩
  refine ⟨fun k m σ H2 => ∃ ρ2 e2 h2, Go (sy T X) ρ1 H1 ρ2 H2 ∧ Rel (sy T X) ρ2 h2 H2 ∧ ER (sy T X) ρ2 H2 e2 σ ∧ AftS (sy T X) ρ2 H2 (forG d.item b fb m k e2 h2) D W, ⟨d.fuel, ρ1, e, h1, .rfl, R1, E1, a1⟩, fun k m σ H2 w => ?_⟩
  obtain ⟨ρ2, e2, h2, g2, R2, E2, a2⟩ := w
  cases m with
  | zero => exact a2.elim
  | succ m =>
    have jk := j ρ2 H2 h2 g2.mv R2 k
    unfold forG at a2
    cases hit : d.item k h2 with
    | none => rw [hit] at a2; exact a2.elim
    | some o =>
      rw [hit] at a2 jk
      cases o with
      | none => exact .inl ⟨jk, a2 ρ2 σ H2 .rfl R2 E2⟩
      | some v =>
        refine .inr ⟨jk.1, fun σ' H' => ∃ ρ2 e2 h2, Go (sy T X) ρ1 H1 ρ2 H' ∧ Rel (sy T X) ρ2 h2 H' ∧ ER (sy T X) ρ2 H' e2 σ' ∧ AftS (sy T X) ρ2 H' (forG d.item b fb m (k + 1) e2 h2) D W, fun σ' H' z => ⟨m, Nat.lt_succ_self m, z⟩, fun x H' y => ?_⟩
        obtain ⟨g3, R3, r3⟩ := jk.2 x H' y
        dsimp only at a2
        cases hbv : b v e2 with
        | none => rw [hbv] at a2; exact a2.elim
        | some e3 =>
          rw [hbv] at a2
          refine ok ρ2 H' h2 e2 σ v x e3 _ R3 (E2.go g3) r3 hbv fun σ3 E3 _ => ⟨ρ2, e3, h2, R3, E3, ?_⟩
          have g4 := g2.trans g3
          have a3 := AftS.later a2 g3
          dsimp only at a3
          revert a3
          cases fb e3 h2 with
          | nx e4 h4 => exact fun a3 ρ4 σ4 H4 s4 R4 E4 => ⟨ρ4, e4, h4, g4.trans s4, R4, E4, a3.later s4⟩
          | ct e4 h4 => exact fun a3 ρ4 σ4 H4 s4 R4 E4 => ⟨ρ4, e4, h4, g4.trans s4, R4, E4, a3.later s4⟩
          | bk e4 h4 => exact fun a3 ρ4 σ4 H4 s4 R4 E4 => a3 ρ4 σ4 H4 s4 R4 E4
          | rt v4 h4 => exact fun a3 => a3
          | exc c4 d4 e4 h4 => exact fun a3 => a3
          | stuck => exact fun a3 => a3
theorem st_while (n : Nat) (hp : PassesOwn (model X.prog X.w) X.A X.env X.xe) (ht : ST T X W a f) (hb : SSs T X W body fb) : SSt T X W (.While a body [] pos) (sWhile n f fb) := by
  refine PS.imp (ps_while hp ht hb) fun D σ H q => ?_
  obtain ⟨ρ, e, h, R, E, a⟩ := q
  refine ⟨fun m σ H2 => ∃ ρ2 e2 h2, Rel (sy T X) ρ2 h2 H2 ∧ ER (sy T X) ρ2 H2 e2 σ ∧ AftS (sy T X) ρ2 H2 (whG f fb m e2 h2) D W, ⟨n, ρ, e, h, R, E, a⟩, fun m σ H2 w => ?_⟩
  obtain ⟨ρ2, e2, h2, R2, E2, a2⟩ := w
  cases m with
  | zero => exact a2.elim
  | succ m =>
    unfold whG at a2
    refine ⟨ρ2, e2, h2, R2, E2, (a2.ofR E2).mono fun v H3 ⟨ρ3, d, h3, s, R3, r, E3, a3⟩ => ?_⟩
    split at a3
    · obtain rfl := r.bl_
      refine ⟨true, rfl, ?_⟩
      refine itT rfl ?_
      refine ⟨fun σ' H' => ∃ ρ2 e2 h2, Rel (sy T X) ρ2 h2 H' ∧ ER (sy T X) ρ2 H' e2 σ' ∧ AftS (sy T X) ρ2 H' (whG f fb m e2 h2) D W, fun σ' H' z => ⟨m, Nat.lt_succ_self m, z⟩, ρ3, e2, h3, R3, E3, ?_⟩
      revert a3
      cases fb e2 h3 with
      | nx e4 h4 => exact fun a3 ρ4 σ4 H4 s4 R4 E4 => ⟨ρ4, e4, h4, R4, E4, a3.later s4⟩
      | ct e4 h4 => exact fun a3 ρ4 σ4 H4 s4 R4 E4 => ⟨ρ4, e4, h4, R4, E4, a3.later s4⟩
      | bk e4 h4 => exact fun a3 ρ4 σ4 H4 s4 R4 E4 => a3 ρ4 σ4 H4 s4 R4 E4
      | rt v4 h4 => exact fun a3 => a3
      | exc c4 d4 e4 h4 => exact fun a3 => a3
      | stuck => exact fun a3 => a3
    · obtain rfl := r.bl_
      refine ⟨false, rfl, ?_⟩
      refine itF rfl ?_
      exact a3 ρ3 σ H3 .rfl R3 E3
    · exact a3.elim
end
end Lad
end
/-! ## LadComp -/
section
set_option maxRecDepth 100000
set_option maxHeartbeats 1000000
namespace Lad
open PySem L2
/-! ### list comprehensions -/
def noX {α : Type} (r : Res α) : Res α := match r with
  | .ok a h => .ok a h
  | _ => .stuck
def wipeE (e : En) : List Nat → En
  | [] => e
  | v :: vs => (wipeE e vs).set v none
def compG (it : Nat → Hea → Option (Option Val)) (b : Val → En → Option En) (tt f : En → Hea → Res Val) (e0 : En) : Nat → Nat → List Val → Hea → Res (List Val)
  | 0, _, _, _ => .stuck
  | n + 1, k, acc, h => match it k h with
    | some none => .ok acc h
    | some (some v) => match b v e0 with
      | some e1 => (noX (tt e1 h)).bind fun c h1 => match c with
        | .bl true => (noX (f e1 h1)).bind fun y h2 => if acc.length < 16777216 then compG it b tt f e0 n (k + 1) (acc ++ [y]) h2 else .stuck
        | .bl false => compG it b tt f e0 n (k + 1) acc h1
        | _ => .stuck
      | none => .stuck
    | none => .stuck
def lComp (own : List Nat) (src : En → Hea → Res Src) (b : Val → En → Option En) (tt f : En → Hea → Res Val) : En → Hea → Res (List Val) := fun e h => (src e h).bind fun s h1 => compG s.item b tt f (wipeE e own) s.fuel 0 [] h1
def eYes : En → Hea → Res Val := fun _ h => .ok (.bl true) h
abbrev W0 : WX := fun _ _ _ _ => False
section
variable {S : Sy} {ρ ρ1 ρ2 : Own} {H H1 Hc : Hp} {h : Hea} {D : Addr} {us us' : List V}
theorem Go.tmp (g : Go S ρ1 H1 ρ2 Hc) (z : H1 D = Option.none) (e : Hc D = some (.lst us)) : Go S ρ1 H1 ρ2 (upd Hc D (.lst us')) :=
  ⟨g.sub, g.kp.trans (.put e True.intro), fun a o q n => by rw [upd_ne (ne_of_none q z)]; exact g.fr a o q n, g.nw, g.hd⟩
/-- what is being made is changed -/
theorem Rel.off (R : Rel S ρ h H) {o : HO} {u : HO} (n : Off ρ D) (m : D ∈ ρ.hd) (e : H D = some u) (h1 : Ch u) : Rel S ρ h (upd H D o) :=
  ⟨R.len, R.inj, fun i ob a e1 e2 => (R.ob i ob a e1 e2).mono (.hid m e h1) (upd_ne fun z => n i (z ▸ e2)), fun a m => let ⟨⟨_, e⟩, z⟩ := R.hid a m; ⟨upd_some e, z⟩⟩
theorem Rel.hideNew (R : Rel S ρ h H) {o : HO} (n : H D = none) : Rel S (ρ.hide D) h (upd H D o) := by
  have m : Mv S ρ H (ρ.hide D) (upd H D o) := ⟨fun _ _ h => h, .new n, fun a u e f => ⟨by rw [upd_ne (ne_of_none e n)]; exact e, f.1, fun m => by
    rcases List.mem_cons.mp m with m | m
    · exact ne_of_none e n m
    · exact f.2 m⟩⟩
  refine ⟨R.len, R.inj, fun i ob a e1 e2 => (R.ob i ob a e1 e2).mono m (upd_ne fun z => R.free n (z ▸ e2)), fun a m => ?_⟩
  rcases List.mem_cons.mp m with m | m
  · subst m
    exact ⟨⟨_, upd_same⟩, fun i z => R.free n z⟩
  · obtain ⟨⟨_, e⟩, z⟩ := R.hid a m
    exact ⟨upd_some e, z⟩
theorem Go.reh {η : List Addr} (g : Go S ρ H ρ1 H1) : Go S ⟨ρ.nm, η⟩ H ⟨ρ1.nm, η⟩ H1 := ⟨g.sub, g.kp, g.fr, g.nw, Eq.refl _⟩
theorem Go.mvh (g : Go S ρ1 H1 ⟨ρ2.nm, ρ1.hd⟩ Hc) (hh : ρ2.hd = D :: ρ1.hd) (z : H1 D = Option.none) : Mv S ρ1 H1 ρ2 Hc := ⟨g.sub, g.kp, fun a o e f => by
  obtain ⟨h1, h2⟩ := g.mv.fz a o e f
  refine ⟨h1, h2.1, ?_⟩
  rw [hh]
  intro m
  rcases List.mem_cons.mp m with m | m
  · exact ne_of_none e z m
  · exact f.2 m⟩
/-- the thing that was being made is made: it is held -/
theorem Rel.shown {η : List Addr} {xs : List Val} (R : Rel S ρ h H) (hh : ρ.hd = D :: η) (nη : D ∉ η) (n : Off ρ D) (e : H D = some (.lst us)) (r : Reps S ρ H xs us) :
    Rel S ⟨ρ.nm, η⟩ h H ∧ Reps S ⟨ρ.nm, η⟩ H xs us ∧ Rel S (Own.add ⟨ρ.nm, η⟩ D) (h ++ [.lst xs]) H := by
  have m1 : Mv S ρ H ⟨ρ.nm, η⟩ H := ⟨fun _ _ h => h, .rfl, fun a o e f => ⟨e, f.1, fun m => f.2 (by rw [hh]; exact List.mem_cons_of_mem _ m)⟩⟩
  have m2 : Mv S ρ H (Own.add ⟨ρ.nm, η⟩ D) H := ⟨Sub.app (ρ := ⟨ρ.nm, η⟩), .rfl, fun a o e f => ⟨e, (m1.fz a o e f).2.add fun z => f.2 (by rw [hh, z]; exact List.mem_cons_self)⟩⟩
  have hi : ∀ a, a ∈ η → (∃ u, H a = some u) ∧ Off (⟨ρ.nm, η⟩ : Own) a := fun a m => R.hid a (by rw [hh]; exact List.mem_cons_of_mem _ m)
  refine ⟨⟨R.len, R.inj, fun i o a e1 e2 => (R.ob i o a e1 e2).mono m1 rfl, hi⟩, r.mono m1, ?_⟩
  exact Rel.grow (ρ := ⟨ρ.nm, η⟩) R.len R.inj n (fun i o a e1 e2 => (R.ob i o a e1 e2).mono m2 rfl) (.lst e (r.mono m2)) hi nη
theorem ER.wipe {e : En} {σ : St} (E : ER S ρ H e σ) : ∀ vs : List Nat, ER S ρ H (wipeE e vs) (L2.wipe σ vs)
  | [] => E
  | v :: vs => (E.wipe vs).gone v
theorem AftL.bindI {r : Res Src} {k : Src → Hea → Res (List Val)} {Q : VK} {W : XK} (a : AftL S ρ H (r.bind k) Q W) :
    AftI S ρ H r (fun J H1 => ∃ ρ1 d h1, Go S ρ H ρ1 H1 ∧ Rel S ρ1 h1 H1 ∧ JOk S ρ1 H1 J d.item ∧ AftL S ρ1 H1 (k d h1) Q W) W := by
  cases r with
  | ok d h => exact fun ρ1 H1 J s R j => ⟨ρ1, d, h, s, R, j, AftL.later (r := k d h) a s⟩
  | exc c d h => exact a
  | stuck => exact a
theorem AftL.noX {r : Res Val} {k : Val → Hea → Res (List Val)} {Q : VK} {W : XK} (a : AftL S ρ H ((Lad.noX r).bind k) Q W) :
    ∃ d h1, r = .ok d h1 ∧ AftL S ρ H (k d h1) Q W := by
  cases r with
  | ok d h => exact ⟨d, h, rfl, a⟩
  | exc c d h => exact a.elim
  | stuck => exact a.elim
end
section
variable {T : Tb} {X : Cx} {W : WX} {tg iter elt : Expr} {ifs : List Expr} {scope : Scope} {own : List (Str × Nat)} {src : En → Hea → Res Src} {tt f : En → Hea → Res Val} {g : TG} {b : Val → En → Option En} {pos : Pos}
abbrev STs (T : Tb) (X : Cx) (W : WX) (ifs : List Expr) (f : En → Hea → Res Val) : Prop := PTs X ifs (tB (tE (sy T X) W f))
theorem _root_.L2.PTs.imp {t t' : TT} (p : PTs X ifs t) (h : ∀ σ H Q, t' σ H Q → t σ H Q) : PTs X ifs t' := ⟨fun pins s σ H Q I q => p.run pins s σ H Q I (h σ H Q q)⟩
theorem sts_nil : STs T X W [] eYes := pts_nil.imp fun σ H Q q => by
  obtain ⟨ρ, e, h, R, E, a⟩ := q
  obtain ⟨c, ec, q⟩ := a.same R (.bl true)
  cases ec
  exact q
theorem sts_one {c : Expr} (h : ST T X W c f) : STs T X W [c] f := pts_one h
theorem lc_imp (ok : GOk (sy T X) (own.map (·.2)) g b) {σ : St} {H : Hp} {Q : VK} (q : tL (sy T X) W (lComp (own.map (·.2)) src b tt f) σ H Q) :
    tLc (tI (sy T X) W src) g (tB (tE (sy T X) W0 tt)) (tE (sy T X) W0 f) (own.map (·.2)) σ H Q := by
  obtain ⟨ρ, e, h, R, E, a⟩ := q
  refine ⟨ρ, e, h, R, E, (AftL.bindI a).mono fun J H1 ⟨ρ1, d, h1, s, R1, j, a1⟩ => fun D hD => ?_⟩
  have E1 : ER (sy T X) ρ1 H1 e σ := E.go s
  have ew := E1.wipe (own.map (·.2))
  refine ⟨fun k m Hc => ∃ ρ2 h2 acc us, ρ2.hd = D :: ρ1.hd ∧ Go (sy T X) ρ1 H1 ⟨ρ2.nm, ρ1.hd⟩ Hc ∧ Rel (sy T X) ρ2 h2 Hc ∧ Hc D = some (.lst us) ∧ Off ρ2 D ∧ Reps (sy T X) ρ2 Hc acc us ∧ AftL (sy T X) ρ1 H1 (compG d.item b tt f (wipeE e (own.map (·.2))) m k acc h2) Q (fun c d H' => W c d σ H'),
    ⟨d.fuel, ρ1.hide D, h1, [], [], rfl, .side hD, R1.hideNew hD, upd_same, fun i z => R1.free hD z, .nil, a1⟩, fun k m Hc w => ?_⟩
  obtain ⟨ρ2, h2, acc, us, hh, g2, R2, hDc, nD, rA, a2⟩ := w
  have mD : D ∈ ρ2.hd := by rw [hh]; exact List.mem_cons_self
  cases m with
  | zero => exact a2.elim
  | succ m =>
    have jk := j ρ2 Hc h2 (g2.mvh hh hD) R2 k
    unfold compG at a2
    cases hit : d.item k h2 with
    | none => rw [hit] at a2; exact a2.elim
    | some o =>
      rw [hit] at a2 jk
      cases o with
      | none =>
        obtain ⟨k1, k2, k3⟩ := R2.shown hh (R1.fz hD).2 nD hDc rA
        exact .inl ⟨jk, a2 ⟨ρ2.nm, ρ1.hd⟩ D us Hc g2 k1 hDc ⟨nD, (R1.fz hD).2⟩ hD k2 k3⟩
      | some v =>
        refine .inr ⟨jk.1, fun Hc => ∃ ρ2 h2 acc us, ρ2.hd = D :: ρ1.hd ∧ Go (sy T X) ρ1 H1 ⟨ρ2.nm, ρ1.hd⟩ Hc ∧ Rel (sy T X) ρ2 h2 Hc ∧ Hc D = some (.lst us) ∧ Off ρ2 D ∧ Reps (sy T X) ρ2 Hc acc us ∧ AftL (sy T X) ρ1 H1 (compG d.item b tt f (wipeE e (own.map (·.2))) m (k + 1) acc h2) Q (fun c d H' => W c d σ H'),
          fun H' z => ⟨m, Nat.lt_succ_self m, z⟩, fun x H' y => ?_⟩
        obtain ⟨g3, R3, r3⟩ := jk.2 x H' y
        dsimp only at a2
        cases hbv : b v (wipeE e (own.map (·.2))) with
        | none => rw [hbv] at a2; exact a2.elim
        | some e3 =>
          rw [hbv] at a2
          have g4 := g2.trans g3.reh
          refine ok ρ2 H' h2 _ _ v x e3 _ R3 ((E1.wipe _).mono ((g2.mvh hh hD).trans g3.mv)) r3 hbv fun σ3 E3 w3 => ⟨?_, ρ2, e3, h2, R3, E3, ?_⟩
          · rw [w3]
            have : ∀ vs : List Nat, L2.wipe (L2.wipe σ vs) vs = L2.wipe σ vs := by
              intro vs
              have key : ∀ (ws : List Nat) (τ : St), (∀ i ∈ ws, ∀ y, τ[i]? ≠ some (some y)) → L2.wipe τ ws = τ := by
                intro ws
                induction ws with
                | nil => intro _ _; rfl
                | cons w ws ih =>
                  intro τ hτ
                  show (L2.wipe τ ws).set w none = τ
                  rw [ih τ fun i hi => hτ i (List.mem_cons_of_mem _ hi)]
                  apply List.ext_getElem?
                  intro n
                  by_cases hn : w = n
                  · subst hn
                    by_cases hl : w < τ.length
                    · rw [List.getElem?_set_self hl]
                      have := hτ w List.mem_cons_self
                      cases q : τ[w]? with
                      | none => rw [List.getElem?_eq_none_iff] at q; omega
                      | some o =>
                        cases o with
                        | none => rfl
                        | some y => exact absurd q (this y)
                    · rw [List.getElem?_eq_none_iff.mpr (by simpa using hl), List.getElem?_eq_none_iff.mpr (by simpa using hl)]
                  · rw [List.getElem?_set_ne hn]
              exact key vs _ fun i hi y hy => (wipe_some hy).2 hi
            exact this _
          · dsimp only at a2
            obtain ⟨cb, hb1, ht, a3⟩ := a2.noX
            rw [ht]
            refine fun ρ5 v5 H5 s5 R5 r5 => ?_
            have g5 := g4.trans s5.reh
            have hh5 : ρ5.hd = D :: ρ1.hd := s5.hd.trans hh
            have off5 : Off ρ5 D := fun i z => by
              rcases s5.nw i D z with ⟨jj, q⟩ | q
              · exact nD jj q
              · rw [g3.fr D _ hDc nD] at q; cases q
            have hD5 : H5 D = some (.lst us) := s5.fr D _ (g3.fr D _ hDc nD) nD
            split at a3
            · obtain rfl := r5.bl_
              refine ⟨true, rfl, ?_⟩
              refine itT rfl ?_
              obtain ⟨yv, hb2, hf, a4⟩ := a3.noX
              refine ⟨ρ5, e3, hb1, R5, E3.go s5, ?_⟩
              rw [hf]
              refine fun ρ6 v6 H6 s6 R6 r6 => ?_
              have off6 : Off ρ6 D := fun i z => by
                rcases s6.nw i D z with ⟨jj, q⟩ | q
                · exact off5 jj q
                · rw [hD5] at q; cases q
              have hD6 : H6 D = some (.lst us) := s6.fr D _ hD5 off5
              have hh6 : ρ6.hd = D :: ρ1.hd := s6.hd.trans hh5
              have mD6 : D ∈ ρ6.hd := by rw [hh6]; exact List.mem_cons_self
              have rl := rA.length
              split at a4
              · rename_i hl
                refine ⟨us, hD6, by rw [sizeLine_eq]; omega, ρ6, hb2, acc ++ [yv], us ++ [v6], hh6, (g5.trans s6.reh).tmp hD hD6, R6.off off6 mD6 hD6 True.intro, upd_same, off6, ?_, a4⟩
                exact (((rA.go g3).go (s5.trans s6)).app (.one r6)).mono (.hid mD6 hD6 True.intro)
              · exact a4.elim
            · obtain rfl := r5.bl_
              refine ⟨false, rfl, ?_⟩
              refine itF rfl ?_
              exact ⟨ρ5, hb1, acc, us, hh5, g5, R5, hD5, off5, (rA.go g3).go s5, a3⟩
            · exact a3.elim
theorem sl_comp (hc : X.calm = true) (hN : X.N.Nodup) (hi : SI T X W tg iter src) (bk : BlkOk X.N X.env.scope scope own)
    (hg : ∀ (s : Shared) (H : Hp) (C : Addr) (cl : List (Str × Addr)) (fp : List Addr), PG (X.blk s H scope (compEnvC scope cl C X.env) fp) tg g)
    (ok : GOk (sy T X) (own.map (·.2)) g b)
    (ht : ∀ (s : Shared) (H : Hp) (C : Addr) (cl : List (Str × Addr)) (fp : List Addr), STs T (X.blk s H scope (compEnvC scope cl C X.env) fp) W0 ifs tt)
    (he : ∀ (s : Shared) (H : Hp) (C : Addr) (cl : List (Str × Addr)) (fp : List Addr), SE T (X.blk s H scope (compEnvC scope cl C X.env) fp) W0 elt f)
    (hs : ∀ x, foldedSetIterable iter X.env x = pure x := by intro _; rfl) :
    SL T X W (.ListComp elt [⟨tg, iter, ifs, 0⟩] scope pos) (lComp (own.map (·.2)) src b tt f) :=
  (pe_lc hc hN hi bk hg ht he hs).imp fun σ H Q q => lc_imp ok q
/-- name = [..] on one line -/
theorem st_setLc {i : Nat} {y : Str} {py spos : Pos} (hc : X.calm = true) (hN : X.N.Nodup) (hy : X.N[i]? = some y) (hyl : X.env.scope.names.lookup y = some .local)
    (hsw : swapsWith (.ListComp elt [⟨tg, iter, ifs, 0⟩] scope pos) (some (.Name y py)) spos.line X.env = pure true) (hi : SI T X W tg iter src) (bk : BlkOk X.N X.env.scope scope own)
    (hg : ∀ (s : Shared) (H : Hp) (C : Addr) (cl : List (Str × Addr)) (fp : List Addr), PG (X.blk s H scope (compEnvC scope cl C X.env) fp) tg g)
    (ok : GOk (sy T X) (own.map (·.2)) g b)
    (ht : ∀ (s : Shared) (H : Hp) (C : Addr) (cl : List (Str × Addr)) (fp : List Addr), STs T (X.blk s H scope (compEnvC scope cl C X.env) fp) W0 ifs tt)
    (he : ∀ (s : Shared) (H : Hp) (C : Addr) (cl : List (Str × Addr)) (fp : List Addr), SE T (X.blk s H scope (compEnvC scope cl C X.env) fp) W0 elt f)
    (hs : ∀ x, foldedSetIterable iter X.env x = pure x := by intro _; rfl) :
    SSt T X W (.Assign [.Name y py] (.ListComp elt [⟨tg, iter, ifs, 0⟩] scope pos) spos) (sSet i (eNew (lComp (own.map (·.2)) src b tt f))) :=
  (ps_setLc hc hN hy hyl hsw hi bk hg ht he hs).imp fun D σ H q => by
    refine lc_imp (W := W) (tt := tt) (f := f) (Q := fun x H1 => gName i x σ H1 D.nx) ok ?_
    obtain ⟨ρ, e, h, R, E, a⟩ := q
    refine ⟨ρ, e, h, R, E, ?_⟩
    unfold sSet eNew at a
    revert a
    cases lComp (own.map (·.2)) src b tt f e h with
    | ok xs h1 => exact fun a ρ1 p vs H1 s R1 el n z r k => a (ρ1.add p) _ H1 (s.adopt z) k ((E.go (s.adopt z)).set (.ref (by rw [R1.len]; exact add_at)) i)
    | exc c d h1 => exact fun a ρ1 v H1 dx s R1 r x => a ρ1 v σ H1 dx s R1 r (E.go s) x
    | stuck => exact id
/-- name = [..] on one line, a list that nothing changes -/
theorem st_setLcF {i : Nat} {y : Str} {py spos : Pos} (hc : X.calm = true) (hN : X.N.Nodup) (hy : X.N[i]? = some y) (hyl : X.env.scope.names.lookup y = some .local)
    (hsw : swapsWith (.ListComp elt [⟨tg, iter, ifs, 0⟩] scope pos) (some (.Name y py)) spos.line X.env = pure true) (hi : SI T X W tg iter src) (bk : BlkOk X.N X.env.scope scope own)
    (hg : ∀ (s : Shared) (H : Hp) (C : Addr) (cl : List (Str × Addr)) (fp : List Addr), PG (X.blk s H scope (compEnvC scope cl C X.env) fp) tg g)
    (ok : GOk (sy T X) (own.map (·.2)) g b)
    (ht : ∀ (s : Shared) (H : Hp) (C : Addr) (cl : List (Str × Addr)) (fp : List Addr), STs T (X.blk s H scope (compEnvC scope cl C X.env) fp) W0 ifs tt)
    (he : ∀ (s : Shared) (H : Hp) (C : Addr) (cl : List (Str × Addr)) (fp : List Addr), SE T (X.blk s H scope (compEnvC scope cl C X.env) fp) W0 elt f)
    (hs : ∀ x, foldedSetIterable iter X.env x = pure x := by intro _; rfl) :
    SSt T X W (.Assign [.Name y py] (.ListComp elt [⟨tg, iter, ifs, 0⟩] scope pos) spos) (sSet i (eLst (lComp (own.map (·.2)) src b tt f))) :=
  (ps_setLc hc hN hy hyl hsw hi bk hg ht he hs).imp fun D σ H q => by
    refine lc_imp (W := W) (tt := tt) (f := f) (Q := fun x H1 => gName i x σ H1 D.nx) ok ?_
    obtain ⟨ρ, e, h, R, E, a⟩ := q
    refine ⟨ρ, e, h, R, E, ?_⟩
    unfold sSet eLst at a
    revert a
    cases lComp (own.map (·.2)) src b tt f e h with
    | ok xs h1 => exact fun a ρ1 p vs H1 s R1 el n z r k => a ρ1 _ H1 s R1 ((E.go s).set (.lst n el r) i)
    | exc c d h1 => exact fun a ρ1 v H1 dx s R1 r x => a ρ1 v σ H1 dx s R1 r (E.go s) x
    | stuck => exact id
end
end Lad
end
/-! ## LadFn -/
section
set_option maxRecDepth 100000
set_option maxHeartbeats 1000000
namespace Lad
open PySem L2
/-! ### equality of data, as it stands -/
/-! ### what a call has made may be forgotten -/
mutual
def Val.und (n : Nat) : Val → Bool
  | .tup xs => undL n xs
  | .lst xs => undL n xs
  | .dic _ _ vs => undL n vs
  | .obj _ _ vs => undL n vs
  | .ref i => Nat.blt i n
  | .exn _ d => d.und n
  | _ => true
def undL (n : Nat) : List Val → Bool
  | [] => true
  | x :: xs => x.und n && undL n xs
end
def undKv (n : Nat) : List (Val × Val) → Bool
  | [] => true
  | (_, x) :: xs => x.und n && undKv n xs
def undFs (n : Nat) : List (Nat × Val) → Bool
  | [] => true
  | (_, x) :: xs => x.und n && undFs n xs
def Ob.und (n : Nat) : Ob → Bool
  | .lst xs => undL n xs
  | .fro _ => true
  | .dcK kvs => undKv n kvs
  | .dcT kvs => undKv n kvs
  | .ins _ fs => undFs n fs
/-- the first n things of the heap name one another alone -/
def shut (n : Nat) : Nat → Hea → Option Hea
  | 0, _ => some []
  | _ + 1, [] => none
  | k + 1, o :: h => if o.und n = true then (shut n k h).map (o :: ·) else none
theorem Sub.cut {ρ ρ' : Own} (s : Sub ρ ρ') {i : Nat} {a : Addr} (hi : Nat.blt i ρ.nm.length = true) (e : ρ'.nm[i]? = some a) : ρ.nm[i]? = some a := by
  have lt : i < ρ.nm.length := Nat.le_of_ble_eq_true hi
  have := s i _ (List.getElem?_eq_getElem lt)
  rw [e] at this
  cases this
  exact List.getElem?_eq_getElem lt
/-- ρ' has more names than ρ -/
structure Less (ρ ρ' : Own) : Prop where
  sub : Sub ρ ρ'
  hd : ρ'.hd = ρ.hd
theorem Less.fz {ρ ρ' : Own} (s : Less ρ ρ') {a : Addr} (f : Fz ρ' a) : Fz ρ a := ⟨fun i z => f.1 i (s.sub _ _ z), by rw [← s.hd]; exact f.2⟩
mutual
theorem Rep.cut {S : Sy} {ρ ρ' : Own} {H : Hp} (s : Less ρ ρ') : ∀ {d : Val} {v : V}, d.und ρ.nm.length = true → Rep S ρ' H d v → Rep S ρ H d v
  | _, _, _, .non => .non
  | _, _, _, .bl b => .bl b
  | _, _, _, .int i => .int i
  | _, _, _, .str z => .str z
  | _, _, h, .tup q r => .tup q (Reps.cut s (by simpa only [Val.und] using h) r)
  | _, _, h, .lst f q r => .lst (s.fz f) q (Reps.cut s (by simpa only [Val.und] using h) r)
  | _, _, h, .dicK f q e1 e2 r => .dicK (s.fz f) q e1 e2 (Reps.cut s (by simpa only [Val.und] using h) r)
  | _, _, h, .dicT f q e1 e2 r => .dicT (s.fz f) q e1 e2 (Reps.cut s (by simpa only [Val.und] using h) r)
  | _, _, h, .obj f q e1 e2 r => .obj (s.fz f) q e1 e2 (Reps.cut s (by simpa only [Val.und] using h) r)
  | _, _, h, .ref q => .ref (s.sub.cut (by simpa only [Val.und] using h) q)
  | _, _, h, .exn h1 h2 r => .exn h1 h2 (Rep.cut s (by simpa only [Val.und] using h) r)
theorem Reps.cut {S : Sy} {ρ ρ' : Own} {H : Hp} (s : Less ρ ρ') : ∀ {d : List Val} {v : List V}, undL ρ.nm.length d = true → Reps S ρ' H d v → Reps S ρ H d v
  | _, _, _, .nil => .nil
  | _, _, h, .cons r t => by
    simp only [undL, Bool.and_eq_true] at h
    exact .cons (Rep.cut s h.1 r) (Reps.cut s h.2 t)
end
theorem KvR.cut {S : Sy} {ρ ρ' : Own} {H : Hp} {κ : Type} {kd : κ → Val} (s : Less ρ ρ') : ∀ {d : List (Val × Val)} {v : List (κ × V)}, undKv ρ.nm.length d = true → KvR S ρ' H kd d v → KvR S ρ H kd d v
  | _, _, _, .nil => .nil
  | _, _, h, .cons r t => by
    simp only [undKv, Bool.and_eq_true] at h
    exact .cons (r.cut s h.1) (KvR.cut s h.2 t)
theorem FsR.cut {S : Sy} {ρ ρ' : Own} {H : Hp} (s : Less ρ ρ') : ∀ {d : List (Nat × Val)} {v : List (Str × V)}, undFs ρ.nm.length d = true → FsR S ρ' H d v → FsR S ρ H d v
  | _, _, _, .nil => .nil
  | _, _, h, .cons r t => by
    simp only [undFs, Bool.and_eq_true] at h
    exact .cons (r.cut s h.1) (FsR.cut s h.2 t)
theorem ObR.cut {S : Sy} {ρ ρ' : Own} {H : Hp} (s : Less ρ ρ') {o : Ob} {a : Addr} (h : o.und ρ.nm.length = true) (r : ObR S ρ' H o a) : ObR S ρ H o a := by
  cases r with
  | lst h1 h2 => exact .lst h1 (h2.cut s h)
  | fro h1 => exact .fro h1
  | dcK h1 h2 => exact .dcK h1 (h2.cut s h)
  | dcT h1 h2 => exact .dcT h1 (h2.cut s h)
  | ins h1 h2 => exact .ins h1 (h2.cut s h)
theorem shut_at {n : Nat} : ∀ {k : Nat} {h g : Hea}, shut n k h = some g → g.length = k ∧ ∀ (i : Nat) (o : Ob), g[i]? = some o → h[i]? = some o ∧ o.und n = true
  | 0, h, g, e => by
    cases h <;> (cases e; exact ⟨rfl, fun i o q => by simp at q⟩)
  | k + 1, [], g, e => by cases e
  | k + 1, o :: h, g, e => by
    unfold shut at e
    split at e
    · rename_i hb
      cases q : shut n k h with
      | none => rw [q] at e; cases e
      | some g2 =>
        rw [q] at e
        cases e
        obtain ⟨l, z⟩ := shut_at q
        refine ⟨by simp [l], fun i o' e' => ?_⟩
        cases i with
        | zero => simp at e'; subst e'; exact ⟨rfl, hb⟩
        | succ i => simp at e' ⊢; exact z i o' e'
    · cases e
theorem Rel.cut {S : Sy} {ρ ρ' : Own} {H H' : Hp} {h h' g : Hea} (R : Rel S ρ h H) (s : Less ρ ρ') (R' : Rel S ρ' h' H') (e : shut h.length h.length h' = some g) : Rel S ρ g H' := by
  obtain ⟨l, z⟩ := shut_at e
  have hl := R.len
  refine ⟨by omega, R.inj, fun i o a e1 e2 => ?_, fun a m => ?_⟩
  · obtain ⟨e3, e4⟩ := z i o e1
    exact (R'.ob i o a e3 (s.sub _ _ e2)).cut s (by rw [← hl]; exact e4)
  · obtain ⟨h1, h2⟩ := R'.hid a (by rw [s.hd]; exact m)
    exact ⟨h1, fun i z => h2 i (s.sub _ _ z)⟩
/-! ### what a call gives back: things that nothing changes any more -/
def frz : Nat → Nat → Hea → Val → Option Val
  | _, _, _, .non => some .non
  | _, _, _, .bl b => some (.bl b)
  | _, _, _, .int i => some (.int i)
  | _, _, _, .str x => some (.str x)
  | 0, _, _, _ => none
  | f + 1, n, h, .tup xs => (mapO (frz f n h) xs).map .tup
  | f + 1, n, h, .lst xs => (mapO (frz f n h) xs).map .lst
  | f + 1, n, h, .dic t ks vs => (mapO (frz f n h) vs).map (.dic t ks)
  | f + 1, n, h, .obj c ns vs => (mapO (frz f n h) vs).map (.obj c ns)
  | f + 1, n, h, .exn c d => (frz f n h d).map (.exn c)
  | f + 1, n, h, .ref i => if Nat.blt i n = true then some (.ref i) else match h[i]? with
    | some (.lst xs) => (mapO (frz f n h) xs).map .lst
    | some (.dcK kvs) => (mapO (frz f n h) (kvs.map (·.2))).map (.dic false (kvs.map (·.1)))
    | some (.dcT kvs) => (mapO (frz f n h) (kvs.map (·.2))).map (.dic true (kvs.map (·.1)))
    | some (.ins c fs) => (mapO (frz f n h) (fs.map (·.2))).map (.obj c (fs.map (·.1)))
    | _ => none
theorem KvR.split {S : Sy} {ρ : Own} {H : Hp} {κ : Type} {kd : κ → Val} : ∀ {d : List (Val × Val)} {v : List (κ × V)}, KvR S ρ H kd d v → d.map (·.1) = v.map (fun p => kd p.1) ∧ Reps S ρ H (d.map (·.2)) (v.map (·.2))
  | _, _, .nil => ⟨rfl, .nil⟩
  | _, _, .cons r t => ⟨by simp [t.split.1], .cons r t.split.2⟩
theorem FsR.split {S : Sy} {ρ : Own} {H : Hp} : ∀ {d : List (Nat × Val)} {v : List (Str × V)}, FsR S ρ H d v → v.map (·.1) = (d.map (·.1)).map S.nm ∧ Reps S ρ H (d.map (·.2)) (v.map (·.2))
  | _, _, .nil => ⟨rfl, .nil⟩
  | _, _, .cons r t => ⟨by simp [t.split.1], .cons r t.split.2⟩
section
variable {S : Sy} {ρ ρ' : Own} {H : Hp} {h : Hea}
theorem mapO_frz {n f : Nat} (ih : ∀ (d d' : Val) (v : V), Rep S ρ' H d v → frz f n h d = some d' → Rep S ρ H d' v) : ∀ (xs ys : List Val) (vs : List V), Reps S ρ' H xs vs → mapO (frz f n h) xs = some ys → Reps S ρ H ys vs
  | [], _, _, .nil, e => by cases e; exact .nil
  | x :: xs, _, _, .cons r t, e => by
    unfold mapO at e
    split at e
    · rename_i y ys h1 h2
      cases e
      exact .cons (ih _ _ _ r h1) (mapO_frz ih xs _ _ t h2)
    · cases e
theorem map_some {α β : Type} {o : Option α} {g : α → β} {b : β} (e : o.map g = some b) : ∃ a, o = some a ∧ b = g a := by
  cases o with
  | none => cases e
  | some a => cases e; exact ⟨a, rfl, rfl⟩
theorem frz_ok (s : Less ρ ρ') (R : Rel S ρ' h H) : ∀ (f : Nat) (d d' : Val) (v : V), Rep S ρ' H d v → frz f ρ.nm.length h d = some d' → Rep S ρ H d' v := by
  intro f
  induction f with
  | zero =>
    intro d d' v r e
    cases r <;> simp only [frz] at e <;> cases e <;> constructor
  | succ f ih =>
    intro d d' v r e
    cases r with
    | non => simp only [frz] at e; cases e; exact .non
    | bl b => simp only [frz] at e; cases e; exact .bl b
    | int b => simp only [frz] at e; cases e; exact .int b
    | str b => simp only [frz] at e; cases e; exact .str b
    | tup q t =>
      simp only [frz] at e
      obtain ⟨ys, e1, rfl⟩ := map_some e
      exact .tup q (mapO_frz ih _ _ _ t e1)
    | lst w q t =>
      simp only [frz] at e
      obtain ⟨ys, e1, rfl⟩ := map_some e
      exact .lst (s.fz w) q (mapO_frz ih _ _ _ t e1)
    | dicK w q e2 e3 t =>
      simp only [frz] at e
      obtain ⟨ys, e1, rfl⟩ := map_some e
      exact .dicK (s.fz w) q e2 e3 (mapO_frz ih _ _ _ t e1)
    | dicT w q e2 e3 t =>
      simp only [frz] at e
      obtain ⟨ys, e1, rfl⟩ := map_some e
      exact .dicT (s.fz w) q e2 e3 (mapO_frz ih _ _ _ t e1)
    | obj w q e2 e3 t =>
      simp only [frz] at e
      obtain ⟨ys, e1, rfl⟩ := map_some e
      exact .obj (s.fz w) q e2 e3 (mapO_frz ih _ _ _ t e1)
    | exn h1 h2 r =>
      simp only [frz] at e
      obtain ⟨y, e1, rfl⟩ := map_some e
      exact .exn h1 h2 (ih _ _ _ r e1)
    | @ref i a ea =>
      simp only [frz] at e
      split at e
      · rename_i hb
        cases e
        exact .ref (s.sub.cut hb ea)
      · rename_i hb
        have fa : Fz ρ a := by
          refine ⟨fun j z => ?_, fun m => ?_⟩
          · have := R.inj j i a (s.sub _ _ z) ea
            subst this
            exact hb (Nat.ble_eq_true_of_le (List.getElem?_eq_some_iff.mp z).1)
          · exact (R.hid a (by rw [s.hd]; exact m)).2 i ea
        split at e
        · rename_i xs hx
          obtain ⟨ys, e1, rfl⟩ := map_some e
          have o := R.ob i _ a hx ea
          cases o with
          | lst h1 h2 => exact .lst fa h1 (mapO_frz ih _ _ _ h2 e1)
        · rename_i xs hx
          obtain ⟨ys, e1, rfl⟩ := map_some e
          have o := R.ob i _ a hx ea
          cases o with
          | dcK h1 h2 => exact .dicK fa h1 h2.split.1 rfl (mapO_frz ih _ _ _ h2.split.2 e1)
        · rename_i xs hx
          obtain ⟨ys, e1, rfl⟩ := map_some e
          have o := R.ob i _ a hx ea
          cases o with
          | dcT h1 h2 => exact .dicT fa h1 h2.split.1 rfl (mapO_frz ih _ _ _ h2.split.2 e1)
        · rename_i c fs hx
          obtain ⟨ys, e1, rfl⟩ := map_some e
          have o := R.ob i _ a hx ea
          cases o with
          | ins h1 h2 => exact .obj fa h1 h2.split.1 rfl (mapO_frz ih _ _ _ h2.split.2 e1)
        · cases e
end
/-- the end of a call: garbage is dropped, what is given back is changed no more -/
def fin (h : Hea) (d : Val) (h' : Hea) : Res Val := if h'.length = h.length then .ok d h' else match shut h.length h.length h' with
  | none => .ok d h'
  | some g => match frz 40 h.length h' d with
    | some d' => .ok d' g
    | none => .ok d h'
/-- the end of a call that gives back a new thing to be changed -/
def finK (h : Hea) (d : Val) (h' : Hea) : Res Val := if h'.length = h.length then .ok d h' else match shut h.length h.length h' with
  | none => .ok d h'
  | some g => match d with
    | .ref i => match h'[i]? with
      | some o => if o.und h.length = true ∧ h.length ≤ i then .ok (.ref h.length) (g ++ [o]) else .ok d h'
      | _ => .ok d h'
    | _ => .ok d h'
def FinOk (fn : Hea → Val → Hea → Res Val) : Prop := ∀ (S : Sy) (ρ : Own) (H : Hp) (h h' : Hea) (d : Val) (Q : VK) (W : XK), Rel S ρ h H → Aft S ρ H (fn h d h') Q W → Aft S ρ H (.ok d h') Q W
theorem Go.less {S : Sy} {ρ ρ1 : Own} {H H1 : Hp} (s : Go S ρ H ρ1 H1) : Less ρ ρ1 := ⟨s.sub, s.hd⟩
theorem Go.drop {S : Sy} {ρ ρ1 : Own} {H H1 : Hp} (s : Go S ρ H ρ1 H1) : Go S ρ H ρ H1 := ⟨.rfl, s.kp, s.fr, fun i _ z => .inl ⟨i, z⟩, Eq.refl _⟩
theorem fin_ok : FinOk fin := by
  intro S ρ H h h' d Q W R a
  unfold fin at a
  have hl := R.len
  split at a
  · exact a
  · split at a
    · exact a
    · rename_i g hg
      split at a
      · rename_i d' hd
        intro ρ1 v H1 s R1 r
        exact a ρ v H1 s.drop (R.cut s.less R1 hg) (frz_ok s.less R1 _ _ _ _ r (by rw [← hl]; exact hd))
      · exact a
section
variable {S : Sy} {ρ ρ' : Own} {H : Hp} {i : Nat} {p : Addr}
theorem Less.fzA (s : Less ρ ρ') (ep : ρ'.nm[i]? = some p) {a : Addr} (f : Fz ρ' a) : Fz (ρ.add p) a := (s.fz f).add fun z => f.1 i (by rw [z]; exact ep)
mutual
theorem Rep.toAdd (s : Less ρ ρ') (ep : ρ'.nm[i]? = some p) : ∀ {d : Val} {v : V}, d.und ρ.nm.length = true → Rep S ρ' H d v → Rep S (ρ.add p) H d v
  | _, _, _, .non => .non
  | _, _, _, .bl b => .bl b
  | _, _, _, .int i => .int i
  | _, _, _, .str z => .str z
  | _, _, h, .tup q r => .tup q (Reps.toAdd s ep (by simpa only [Val.und] using h) r)
  | _, _, h, .lst f q r => .lst (s.fzA ep f) q (Reps.toAdd s ep (by simpa only [Val.und] using h) r)
  | _, _, h, .dicK f q e1 e2 r => .dicK (s.fzA ep f) q e1 e2 (Reps.toAdd s ep (by simpa only [Val.und] using h) r)
  | _, _, h, .dicT f q e1 e2 r => .dicT (s.fzA ep f) q e1 e2 (Reps.toAdd s ep (by simpa only [Val.und] using h) r)
  | _, _, h, .obj f q e1 e2 r => .obj (s.fzA ep f) q e1 e2 (Reps.toAdd s ep (by simpa only [Val.und] using h) r)
  | _, _, h, .ref q => .ref (Sub.app _ _ (s.sub.cut (by simpa only [Val.und] using h) q))
  | _, _, h, .exn h1 h2 r => .exn h1 h2 (Rep.toAdd s ep (by simpa only [Val.und] using h) r)
theorem Reps.toAdd (s : Less ρ ρ') (ep : ρ'.nm[i]? = some p) : ∀ {d : List Val} {v : List V}, undL ρ.nm.length d = true → Reps S ρ' H d v → Reps S (ρ.add p) H d v
  | _, _, _, .nil => .nil
  | _, _, h, .cons r t => by
    simp only [undL, Bool.and_eq_true] at h
    exact .cons (Rep.toAdd s ep h.1 r) (Reps.toAdd s ep h.2 t)
end
theorem KvR.toAdd {κ : Type} {kd : κ → Val} (s : Less ρ ρ') (ep : ρ'.nm[i]? = some p) : ∀ {d : List (Val × Val)} {v : List (κ × V)}, undKv ρ.nm.length d = true → KvR S ρ' H kd d v → KvR S (ρ.add p) H kd d v
  | _, _, _, .nil => .nil
  | _, _, h, .cons r t => by
    simp only [undKv, Bool.and_eq_true] at h
    exact .cons (r.toAdd s ep h.1) (KvR.toAdd s ep h.2 t)
theorem FsR.toAdd (s : Less ρ ρ') (ep : ρ'.nm[i]? = some p) : ∀ {d : List (Nat × Val)} {v : List (Str × V)}, undFs ρ.nm.length d = true → FsR S ρ' H d v → FsR S (ρ.add p) H d v
  | _, _, _, .nil => .nil
  | _, _, h, .cons r t => by
    simp only [undFs, Bool.and_eq_true] at h
    exact .cons (r.toAdd s ep h.1) (FsR.toAdd s ep h.2 t)
theorem ObR.toAdd (s : Less ρ ρ') (ep : ρ'.nm[i]? = some p) {o : Ob} {a : Addr} (h : o.und ρ.nm.length = true) (r : ObR S ρ' H o a) : ObR S (ρ.add p) H o a := by
  cases r with
  | lst h1 h2 => exact .lst h1 (h2.toAdd s ep h)
  | fro h1 => exact .fro h1
  | dcK h1 h2 => exact .dcK h1 (h2.toAdd s ep h)
  | dcT h1 h2 => exact .dcT h1 (h2.toAdd s ep h)
  | ins h1 h2 => exact .ins h1 (h2.toAdd s ep h)
end
theorem ObR.mono1 {S : Sy} {ρ ρ' : Own} {H : Hp} (m : Mv S ρ H ρ' H) {o : Ob} {a : Addr} (r : ObR S ρ H o a) : ObR S ρ' H o a := r.mono m rfl
theorem finK_ok : FinOk finK := by
  intro S ρ H h h' d Q W R a
  unfold finK at a
  have hl := R.len
  split at a
  · exact a
  · split at a
    · exact a
    · rename_i g hg
      split at a
      · rename_i i
        split at a
        · rename_i o ho
          split at a
          · rename_i hu
            intro ρ1 v H1 s R1 r
            obtain ⟨p, rfl, ep⟩ := r.ref_
            have off : Off ρ p := fun j z => by
              have := R1.inj j i p (s.sub _ _ z) ep
              subst this
              have := (List.getElem?_eq_some_iff.mp z).1
              omega
            have hp : H p = none := by
              rcases s.nw i p ep with ⟨j, z⟩ | z
              · exact (off j z).elim
              · exact z
            have ob := R1.ob i _ p ho ep
            have Rb := R.cut s.less R1 hg
            have hnh : p ∉ ρ.hd := (R.fz hp).2
            -- nothing else stands for p
            have lm : ∀ {o : Ob} {a : Addr}, o.und ρ.nm.length = true → ObR S ρ1 H1 o a → ObR S (ρ.add p) H1 o a := by
              intro o a hu r
              exact ObR.toAdd s.less ep hu r
            exact a (ρ.add p) _ H1 (s.drop.adopt hp) (Rel.grow Rb.len Rb.inj off (fun j o' b e1 e2 => by
              obtain ⟨e3, e4⟩ := (shut_at hg).2 j o' e1
              exact lm (by rw [← hl]; exact e4) (R1.ob j o' b e3 (s.sub _ _ e2))) (lm (by rw [← hl]; exact hu.1) ob) Rb.hid hnh) (.ref (by rw [hl]; exact add_at))
          · exact a
        · exact a
      · exact a
/-! ### defs -/
def startE (n : Nat) (ds : List Val) : En := ds.map some ++ List.replicate (n - ds.length) none
def runG (fn : Hea → Val → Hea → Res Val) (np ns : Nat) (body : En → Hea → SRes) (ds : List Val) (h : Hea) : Res Val := if ds.length = np then
    (match body (startE ns ds) h with
      | .rt d h' => fn h d h'
      | .nx _ h' => fn h .non h'
      | .exc c d _ h' => if h'.length = h.length then .exc c d h' else (match shut h.length h.length h' with
        | some g => (match frz 40 h.length h' d with
          | some d' => .exc c d' g
          | none => .exc c d h')
        | none => .exc c d h')
      | _ => .stuck)
  else .stuck
abbrev runB := runG fin
abbrev runK := runG finK
def spEv (S : Sy) (cf : List Val → Hea → Res Val) : Sp := fun vs H Q E => ∃ ρ h ds, Rel S ρ h H ∧ Reps S ρ H ds vs ∧ Aft S ρ H (cf ds h) Q E
theorem ER.start {S : Sy} {ρ : Own} {H : Hp} {n : Nat} : ∀ {ds : List Val} {vs : List V}, Reps S ρ H ds vs → ER S ρ H (ds.map some ++ List.replicate n none) (vs.map some ++ List.replicate n none)
  | _, _, .nil => by
    induction n with
    | zero => exact .nil
    | succ n ih => exact .cons (fun x e => nomatch e) ih
  | _, _, .cons r t => .cons (fun x e => ⟨_, rfl, by cases e; exact r⟩) (ER.start t)
theorem runB_ok {S : Sy} {fn : Hea → Val → Hea → Res Val} (fo : FinOk fn) {np : Nat} {N : List Str} {fb : En → Hea → SRes} {vs : List V} {H : Hp} {Q : VK} {E : XK} (q : spEv S (runG fn np N.length fb) vs H Q E) :
    vs.length = np ∧ tS S (fun c d _ H' => E c d H') fb { nx := fun _ H' => Q .non H', rt := Q } (L2.start N vs) H := by
  obtain ⟨ρ, h, ds, R, r, a⟩ := q
  unfold runG at a
  split at a
  · rename_i hl
    refine ⟨by rw [← r.length]; exact hl, ρ, startE N.length ds, h, R, ?_, ?_⟩
    · unfold startE L2.start
      rw [← r.length]
      exact ER.start r
    · revert a
      cases fb (startE N.length ds) h with
      | nx e h' => exact fun a ρ1 σ1 H1 s R1 E1 => fo _ _ _ _ _ _ _ _ R a ρ1 .non H1 s R1 .non
      | rt d h' => exact fun a ρ1 v H1 s R1 r1 => fo _ _ _ _ _ _ _ _ R a ρ1 v H1 s R1 r1
      | bk e h' => exact fun a => a.elim
      | ct e h' => exact fun a => a.elim
      | stuck => exact fun a => a
      | exc c d e h' =>
        intro a ρ1 v σ1 H1 dx s R1 r1 E1 x
        dsimp only at a
        split at a
        · exact a ρ1 v H1 dx s R1 r1 x
        · split at a
          · rename_i g hg
            split at a
            · rename_i d' hd
              exact a ρ v H1 dx s.drop (R.cut s.less R1 hg) (frz_ok s.less R1 _ _ _ _ r1 (by rw [← R.len]; exact hd)) x
            · exact a ρ1 v H1 dx s R1 r1 x
          · exact a ρ1 v H1 dx s R1 r1 x
  · exact a.elim
/-- a def keeps its promise -/
theorem fn_ok {P : Program} {w : World} {K : PySem.W.Frag} {mg : Str → Option Value} {base : Heap} {T : Tb} {x qual : Str} {st : Stmt} {f : Addr} {fd : FuncData} {N ps : List Str} {k : Nat} {fb : En → Hea → SRes}
    {fn : Hea → Val → Hea → Res Val} (fo : FinOk fn) (F : Fun K x qual st f fd) (Sc : FnScope N ps (defScope st))
    (hb : ∀ (cdv : Value) (A : Around) (outer : List Env) (s : Shared) (H : Hp) (E : XK), Room k (A.deeper (PyProof.Rows.envOfC qual (defScope st) s.heap.objs.size f cdv)) →
      SSs T (cxOf (L2.CX P w) P w K mg base N qual (defScope st) f cdv A outer s H E) (fun c d _ H' => E c d H') (defBody st) fb) :
    FnOk P w K mg base (L2.CX P w) (k + 1) f fd ps (spEv ⟨K, T.ca, T.nm, T.fld, T.ex⟩ (runG fn ps.length N.length fb)) :=
  F.okX Sc (fun vs H Q E q => (runB_ok fo q).1) fun cdv A outer s H vs Q E hr q => ⟨_, hb cdv A outer s H E hr, (runB_ok fo q).2⟩
def eCall (cf : List Val → Hea → Res Val) (g : En → Hea → Res (List Val)) : En → Hea → Res Val := fun e h => (g e h).bind cf
section
variable {T : Tb} {X : Cx} {W : WX} {x : Str} {f : Addr} {fd : FuncData} {ps : List Str} {k : Nat} {cf : List Val → Hea → Res Val} {e : Expr} {es : List Expr} {g : En → Hea → Res (List Val)} {p pos : Pos}
theorem se_call (F : FnOk X.prog X.w X.K X.mg X.base (L2.CX X.prog X.w) k f fd ps (spEv (sy T X) cf)) (hr : Room k X.A) (hg : Gl X x) (hm : X.mg x = some (.ref f)) (hk : PySem.W.keepIn X.K (.ref f) = true) (hb : Binds X.K fd ps []) (tk : Takes X W)
    (ha : SA T X W (e :: es) g) (hdb : (x == ("__debug__" : Str)) = false := by decide) (he : starEach (e :: es) X.env = (false, eval e X.env) :: starEach es X.env := by rfl) (hpl : (backTo pos (starEach es X.env)).any (·.1) = false := by rfl) :
    SE T X W (.Call (.Name x p) (e :: es) [] pos) (eCall cf g) :=
  (pe_callS (E := fun σ => WE W σ) F hr hg hm hk hb (fun σ => passAt tk σ) ha hdb he hpl).imp fun σ H Q q => by
    obtain ⟨ρ, e, h, R, E, a⟩ := q
    exact ⟨ρ, e, h, R, E, (AftA.bind a).mono fun vs H1 ⟨ρ1, ds, h1, s, R1, r1, a1⟩ => ⟨ρ1, h1, ds, R1, r1, a1⟩⟩
end
end Lad
end
/-! ## LadMore -/
section
set_option maxRecDepth 100000
set_option maxHeartbeats 1000000
namespace Lad
open PySem L2
section
variable {T : Tb} {X : Cx} {W : WX} {a b c : Expr} {f1 f2 f3 : En → Hea → Res Val} {pos : Pos}
theorem se_chain2 {op op' : CmpOp} {g g' : Hea → Val → Val → Option Val} (ho : OpR X (compareOp op) (rB (sy T X) g)) (ho' : OpR X (compareOp op') (rB (sy T X) g')) (ha : SE T X W a f1) (hb : SE T X W b f2) (hc : SE T X W c f3)
    (hm : lastMarks [op, op'] [b, c] = false := by with_unfolding_all rfl) : SE T X W (.Compare a [op, op'] [b, c] pos) (eChain g g' f1 f2 f3) := (pe_chain ho ho' ha hb hc hm).imp fun σ H Q q => chain_imp q
theorem st_chain2 {op op' : CmpOp} {g g' : Hea → Val → Val → Option Val} (ho : OpR X (compareOp op) (rB (sy T X) g)) (ho' : OpR X (compareOp op') (rB (sy T X) g')) (ha : SE T X W a f1) (hb : SE T X W b f2) (hc : SE T X W c f3)
    (hm : lastMarks [op, op'] [b, c] = false := by with_unfolding_all rfl) : ST T X W (.Compare a [op, op'] [b, c] pos) (eChain g g' f1 f2 f3) := (pt_chain ho ho' ha hb hc hm).imp fun σ H Q q => chain_imp q
end
theorem u65 {A : Around} {k : Nat} (hr : Room k A) : A.units + 65 < cLine := by have := hr.un; omega
/-- a built-in class by its name -/
theorem ty_of {X : Cx} {x : Str} {n : String} {pos : Pos} (hm : X.mg x = none) (hv : bootBuiltins x = some (.type n)) (hg : Gl X x := by rfl) (hn : x ≠ "__name__" := by decide) (hd : (x == ("__debug__" : Str)) = false := by decide) : PE X (.Name x pos) (tC (.ty n)) := pe_bltn hg hm hv rfl hn hd
section
variable {T : Tb} {X : Cx} {W : WX} {x : Str} {id : String} {n : String} {a e : Expr} {es : List Expr} {f : En → Hea → Res Val} {g : En → Hea → Res (List Val)} {p pos : Pos}
/-- a built-in def of plain arguments -/
theorem se_cb {r : Hea → List Val → Option Val} (hc : CallR X (.builtin id) (rC (sy T X) r)) (hm : X.mg x = none) (hv : bootBuiltins x = some (.builtin id)) (ha : SA T X W (e :: es) g) (hg : Gl X x := by rfl) (hn : x ≠ "__name__" := by decide) (hdb : (x == ("__debug__" : Str)) = false := by decide)
    (he : starEach (e :: es) X.env = (false, eval e X.env) :: starEach es X.env := by rfl) (hpl : (backTo pos (starEach es X.env)).any (·.1) = false := by rfl) : SE T X W (.Call (.Name x p) (e :: es) [] pos) (eCB r g) :=
  (pe_callB hc hg hm hv ha hn hdb he hpl).imp fun σ H Q q => cb_imp q
theorem se_ct {r : Hea → List Val → Option Val} (hc : CallR X (.type n) (rC (sy T X) r)) (hm : X.mg x = none) (hv : bootBuiltins x = some (.type n)) (ha : SA T X W (e :: es) g) (hg : Gl X x := by rfl) (hn : x ≠ "__name__" := by decide) (hdb : (x == ("__debug__" : Str)) = false := by decide)
    (he : starEach (e :: es) X.env = (false, eval e X.env) :: starEach es X.env := by rfl) (hpl : (backTo pos (starEach es X.env)).any (·.1) = false := by rfl) : SE T X W (.Call (.Name x p) (e :: es) [] pos) (eCB r g) :=
  (pe_callTy hc hg hm hv ha hn hdb he hpl).imp fun σ H Q q => cb_imp q
/-- of a list or tuple that is a value; of a list made for it -/
theorem se_it {r : List Val → Option Val} (hc : CallR X (.builtin id) (rIt (sy T X) r)) (hm : X.mg x = none) (hv : bootBuiltins x = some (.builtin id)) (ha : SE T X W a f) (hg : Gl X x := by rfl) (hn : x ≠ "__name__" := by decide) (hdb : (x == ("__debug__" : Str)) = false := by decide)
    (he : starEach [a] X.env = (false, eval a X.env) :: starEach [] X.env := by rfl) : SE T X W (.Call (.Name x p) [a] [] pos) (eIt r f) :=
  (pe_callB hc hg hm hv (pa_cons ha pa_nil he) hn hdb he rfl).imp fun σ H Q q => it_imp q
theorem se_itL {r : List Val → Option Val} (hc : CallR X (.builtin id) (rIt (sy T X) r)) (hm : X.mg x = none) (hv : bootBuiltins x = some (.builtin id)) (ha : SL T X W a g) (hg : Gl X x := by rfl) (hn : x ≠ "__name__" := by decide) (hdb : (x == ("__debug__" : Str)) = false := by decide)
    (he : starEach [a] X.env = (false, eval a X.env) :: starEach [] X.env := by rfl) : SE T X W (.Call (.Name x p) [a] [] pos) (eItL r g) :=
  (pe_callB hc hg hm hv (pa_cons ha pa_nil he) hn hdb he rfl).imp fun σ H Q q => itL_imp q
theorem se_il {r : List Val → Option Val} (hc : CallR X (.builtin id) (rIl (sy T X) r)) (hm : X.mg x = none) (hv : bootBuiltins x = some (.builtin id)) (ha : SE T X W a f) (hg : Gl X x := by rfl) (hn : x ≠ "__name__" := by decide) (hdb : (x == ("__debug__" : Str)) = false := by decide)
    (he : starEach [a] X.env = (false, eval a X.env) :: starEach [] X.env := by rfl) : SE T X W (.Call (.Name x p) [a] [] pos) (eIl r f) :=
  (pe_callB hc hg hm hv (pa_cons ha pa_nil he) hn hdb he rfl).imp fun σ H Q q => il_imp q
theorem se_ilL {r : List Val → Option Val} (hc : CallR X (.builtin id) (rIl (sy T X) r)) (hm : X.mg x = none) (hv : bootBuiltins x = some (.builtin id)) (ha : SL T X W a g) (hg : Gl X x := by rfl) (hn : x ≠ "__name__" := by decide) (hdb : (x == ("__debug__" : Str)) = false := by decide)
    (he : starEach [a] X.env = (false, eval a X.env) :: starEach [] X.env := by rfl) : SE T X W (.Call (.Name x p) [a] [] pos) (eItL r g) :=
  (pe_callB hc hg hm hv (pa_cons ha pa_nil he) hn hdb he rfl).imp fun σ H Q q => ilL_imp q
theorem se_tit {r : List Val → Option Val} (hc : CallR X (.type n) (rIt (sy T X) r)) (hm : X.mg x = none) (hv : bootBuiltins x = some (.type n)) (ha : SE T X W a f) (hg : Gl X x := by rfl) (hn : x ≠ "__name__" := by decide) (hdb : (x == ("__debug__" : Str)) = false := by decide)
    (he : starEach [a] X.env = (false, eval a X.env) :: starEach [] X.env := by rfl) : SE T X W (.Call (.Name x p) [a] [] pos) (eIt r f) :=
  (pe_callTy hc hg hm hv (pa_cons ha pa_nil he) hn hdb he rfl).imp fun σ H Q q => it_imp q
theorem se_titL {r : List Val → Option Val} (hc : CallR X (.type n) (rIt (sy T X) r)) (hm : X.mg x = none) (hv : bootBuiltins x = some (.type n)) (ha : SL T X W a g) (hg : Gl X x := by rfl) (hn : x ≠ "__name__" := by decide) (hdb : (x == ("__debug__" : Str)) = false := by decide)
    (he : starEach [a] X.env = (false, eval a X.env) :: starEach [] X.env := by rfl) : SE T X W (.Call (.Name x p) [a] [] pos) (eItL r g) :=
  (pe_callTy hc hg hm hv (pa_cons ha pa_nil he) hn hdb he rfl).imp fun σ H Q q => itL_imp q
/-- list(x): a new list -/
def lOf (f : En → Hea → Res Val) : En → Hea → Res (List Val) := fun e h => (f e h).bind fun d h1 => match itemsOf h1 d with
  | some xs => .ok xs h1
  | none => .stuck
theorem sl_list (hm : X.mg "list" = none) (ha : SE T X W a f) (hg : Gl X "list" := by rfl) (he : starEach [a] X.env = (false, eval a X.env) :: starEach [] X.env := by rfl) : SL T X W (.Call (.Name "list" p) [a] [] pos) (lOf f) :=
  (pe_callTy call_list_of hg hm (by decide +kernel) (pa_cons ha pa_nil he) (he := he) (hpl := rfl)).imp fun σ H Q q => by
    obtain ⟨ρ, e, h, R, E, a⟩ := q
    refine ⟨ρ, e, h, R, E, (AftL.bind1 a).mono fun v H1 ⟨ρ1, d, h1, s, R1, r1, a1⟩ => ?_⟩
    split at a1
    · rename_i xs hx
      obtain ⟨p, us, rfl, sq, rr⟩ := items_sq R1 r1 hx
      exact ⟨p, us, rfl, sq.symm, fun l n => a1.made R1 rr l n⟩
    · exact a1.elim
/-! slices of lists -/
def oInt : Val → Option Int
  | .int i => some i
  | _ => none
def lSlice (f : En → Hea → Res Val) (lo hi : Option (En → Hea → Res Val)) : En → Hea → Res (List Val) := fun e h => (f e h).bind fun d h1 => match itemsOf h1 d with
  | some xs => (match lo with
      | none => .ok none h1
      | some g => (g e h1).bind fun i h2 => match i with | .int i => .ok (some i) h2 | _ => .stuck : Res (Option Int)).bind fun l h2 =>
      (match hi with
      | none => .ok none h2
      | some g => (g e h2).bind fun i h3 => match i with | .int i => .ok (some i) h3 | _ => .stuck : Res (Option Int)).bind fun u h3 =>
        .ok ((xs.drop (HT.sIx xs.length 0 l)).take (HT.sIx xs.length xs.length u - HT.sIx xs.length 0 l)) h3
  | none => .stuck
end
end Lad
end
/-! ## LadExc -/
section
set_option maxRecDepth 100000
set_option maxHeartbeats 2000000
namespace Lad
open PySem PySem.W PySem.Calls PyProof.Rows PySem.HandSPX
open L2 (defArgs defBody defScope)
/-! ### own errors: def __init__(self, f): super().__init__('..'); self.f = f -/
def exB (txt fld : Str) (j : Nat) (a1 a2 a3 a4 a5 a6 b1 b2 b3 b4 : Pos) : List Stmt :=
  [.Expr (.Call (.Attribute (.Call (.Name "super" a1) [] [] a2) "__init__" a3) [.Constant (.str txt) j a4] [] a5) a6, .Assign [.Attribute (.Name "self" b1) fld b2] (.Name fld b3) b4]
structure InitOk (st : Stmt) (fld : Str) : Prop where
  body : ∃ txt j a1 a2 a3 a4 a5 a6 b1 b2 b3 b4, defBody st = exB txt fld j a1 a2 a3 a4 a5 a6 b1 b2 b3 b4 ∧ ∀ env : Env, ∃ pl : Sem Bool,
    eval (.Call (.Attribute (.Call (.Name "super" a1) [] [] a2) "__init__" a3) [.Constant (.str txt) j a4] [] a5) env = (do
      let ov ← attributeBase (.Call (.Name "super" a1) [] [] a2) "__init__" env (eval (.Call (.Name "super" a1) [] [] a2) env)
      standAt a3.atName
      let (f, first) ← holding [ov] (getMethod ov "__init__" pl)
      callWith a5 f first (backTo a5 (starEach [.Constant (.str txt) j a4] env)) [])
  par : ∃ an p, ((defArgs st).posonlyargs ++ (defArgs st).args).head? = some { arg := "self", annotation := an, pos := p }
  cell : ∀ x ∈ (defScope st).names, x.2 ≠ .cell
  co : (defScope st).isCoroutine = false
  gen : (defScope st).isGenerator = false
  kind : (defScope st).kind = .function
  ls : (defScope st).names.lookup ("self" : Str) = some .local
  lf : (defScope st).names.lookup fld = some .local
  lsu : (defScope st).names.lookup ("super" : Str) = some .globalImplicit
  lc : (defScope st).names.lookup ("__class__" : Str) = some .free
  ne : fld ≠ "self"
  nd : (fld == ("__debug__" : Str)) = false
/-- what the written part says of the class at C (its __init__ at fI, the cell of its class at cc, its code at cda) -/
structure ExTxt (P : Program) (K : Frag) (st : Stmt) (C fI cc cda : Addr) (fd : FuncData) (B newId initId : String) (bmB : List Value) (fld : Str) : Prop where
  kxs : KxsFacts B initId
  eb : ExcBaseFacts B newId initId bmB
  sf : StoreFacts B bmB "object.__setattr__" "object"
  ini : InitOk st fld
  ei : excInitIn K C bmB newId = true
  ov : excOver K C bmB = true
  sa : findIn K (.ref C) "__setattr__" = some (some (.builtin "object.__setattr__"))
  tkr : takerIn K C fld = some none
  iC : findIn K (.ref C) "__init__" = some (some (.ref fI))
  tC : typeIn K (.ref fI) = some (.type "function")
  kC : keepIn K (.ref C) = true
  exC : subIn K (.ref C) (.type "BaseException") = some true
  exB : subIn K (.ref C) (.type B) = some true
  tyC : typeIn K (.ref C) = some (.type "type")
  hdC : hasDictIn K C = true
  mro : mroIn K C (.ref C) = some true
  sup : nsIn K mainGlobals "super" = some none
  opq : nsIn K cStatics "thirdparty.any" = some none
  alo : ks_superIn K C C "__init__" = some (some (.builtin initId))
  fn : ∃ (qual : Str) (oc dV kV doc pm ct : Value) (od an : Option Addr) (osl : Array (Option Value)), fd = ksFn "__init__" qual (defArgs st) (defBody st) (defScope st) dV kV doc pm an (.ref cda) ct cc ∧ K.lookup fI = some ⟨oc, od, .func fd, osl⟩ ∧ codeIn K (.ref cda) qual = true
  bnd : ∀ (s : Shared) (x : Addr) (v : Value), BindsTo s fd ⟨[.ref x, v], []⟩ [("self", .ref x), (fld, v)]
  code : ∃ (ccl : Value) (cdd : Option Addr) (vs : Array Value) (ccs : Array (Option Value)) (file : Str) (tf : Tok), K.lookup cda = some ⟨ccl, cdd, .fields vs, ccs⟩ ∧ vs[2]? = some (.str file tf) ∧ ((P.main.file : Str) == file) = true
  clc : ∃ (cl : Value) (cld : Option Addr) (csl : Array (Option Value)), K.lookup cc = some ⟨cl, cld, .cell (some (.ref C)), csl⟩
  top : (P.main.scope.names.lookup ("super" : Str)).isSome = false
/-- what __init__ leaves of a fresh exception at x -/
structure XInit (h h' : Heap) (x C dx t1 : Addr) (fld : Str) (v : Value) : Prop where
  keep : ∀ b o, b ≠ x → h.get? b = some o → h'.get? b = some o
  obj : h'.get? x = some { cls := .ref C, dict := some dx, data := .fields #[.ref t1, .none, .none, .none, .bool false, .none] }
  dbig : h.objs.size ≤ dx
  dne : dx ≠ x
  ns : h'.Ns1 dx (fun y => if y = fld then some v else none)
section
variable {P : Program} {w : World} {A : Around} {E : Value → Shared → Prop} {R : Result → Shared → Prop} {s : Shared} {K : Frag} {mg : Str → Option Value} {st : Stmt} {C fI cc cda : Addr} {fd : FuncData} {B newId initId : String} {bmB : List Value} {fld : Str}
/-- self.f = v on a fresh exception -/
theorem xc_store {x t : Addr} {v : Value} {Q : Unit → Shared → Prop} (T : ExTxt P K st C fI cc cda fd B newId initId bmB fld) (X : K.In s.heap) (hx : s.heap.get? x = some (excObj C t none .none))
    (hq : ∀ h' tk dx, (∀ b o, b ≠ x → s.heap.get? b = some o → h'.get? b = some o) → s.heap.objs.size ≤ dx → dx ≠ x → h'.get? x = some (excObj C t (some dx) .none) → h'.Ns1 dx (fun y => if y = fld then some v else none) → Q () { s with heap := h', toks := tk }) :
    wpAny (model P w) A (setAttr (.ref x) fld v) Q E s := by
  refine set_plain (od := none) X ⟨hx, rfl, rfl, trivial⟩ T.sa ?_
  obtain ⟨hp, g, d, tk0, os⟩ := s
  refine osa_openX (od := none) T.sf X ⟨hx, rfl, rfl, trivial⟩ T.ov T.tkr fun b => ?_
  obtain ⟨cd, hc, hd'⟩ : ∃ cd, clsIn K C = some cd ∧ cd.hasDict = true := by
    have := T.hdC
    unfold hasDictIn at this
    cases e : clsIn K C with
    | none => rw [e] at this; simp at this
    | some cd => rw [e] at this; exact ⟨cd, rfl, by simpa using this⟩
  have hxs : x ≠ hp.objs.size := Nat.ne_of_lt (Heap.lt_size hx)
  refine wpAny_bind (wpAny_pure (wpAny_bind (instanceDict_exc hx (looks_clsIn X hc) hd' ?_)))
  refine store_in_new ⟨dictOf [] 0, #[], 0, (Heap.get?_update_other _ _ hxs).trans (Heap.get?_push_at rfl rfl), rfl, fun e he => absurd he (by simp), fun _ => rfl⟩ fun h' tk' hn' hs => ?_
  have e1 : ((hp.push (dictOf [] 0)).update x fun o => { o with dict := some hp.objs.size }).get? x = some (excObj C t (some hp.objs.size) .none) := Heap.get?_update_self _ (Heap.get?_push_of_some _ hx) rfl
  exact hq h' tk' hp.objs.size (fun b o hb ho => (hs.2 b (Nat.ne_of_lt (Heap.lt_size ho))).trans ((Heap.get?_update_other _ _ (Ne.symm hb)).trans (Heap.get?_push_of_some _ ho))) (Nat.le_refl _) hxs.symm ((hs.2 x hxs).trans e1) hn'
/-- __init__ runs -/
theorem xc_init (T : ExTxt P K st C fI cc cda fd B newId initId bmB fld) {x t0 : Addr} {v : Value} (X : K.In s.heap) (hg : s.heap.Ns mainGlobals mg) (hbt : ∃ mb, s.heap.Ns builtinsNs mb ∧ ∀ x : Str, x ≠ "__name__" → mb x = bootBuiltins x) (hlim : s.heap.NoLimit)
    (hx : s.heap.get? x = some (excObj C t0 none .none)) (hnx : K.lookup x = none) (hroom : A.depth < recursionLimit)
    (hq : ∀ h' tk dx t1, XInit s.heap h' x C dx t1 fld v → R (.ok (.ret .none)) { s with heap := h', toks := tk }) :
    codeAny (model P w) A (.call (.ref fI) ⟨[.ref x, v], []⟩) R s := by
  obtain ⟨qual, oc, dV, kV, doc, pm, ct, od, an, osl, rfl, hfI, hcd⟩ := T.fn
  obtain ⟨ccl, cdd, vs, ccs, file, tf, hcode, hvs, hfile⟩ := T.code
  obtain ⟨cl, cld, csl, hcell⟩ := T.clc
  obtain ⟨txt, j, a1, a2, a3, a4, a5, a6, b1, b2, b3, b4, hbody, hev⟩ := T.ini.body
  obtain ⟨pan, pp, hpar⟩ := T.ini.par
  refine ks_codeAny_call_defAt (binds := [("self", .ref x), (fld, v)]) hroom (X _ _ hfI) rfl hlim (codeRec_of X hcd) rfl (T.bnd s x v) T.ini.cell (fun y hy => ?_) (fun h₁ hn k₁ => ?_) T.ini.co T.ini.gen T.ini.kind
  · rcases List.mem_cons.mp hy with rfl | hy
    · exact T.ini.ls
    · rcases List.mem_cons.mp hy with rfl | hy
      · exact T.ini.lf
      · cases hy
  obtain ⟨hp, g, d, tk, os⟩ := s
  have X₁ : K.In h₁ := X.keeps k₁
  have hx₁ := k₁ _ _ hx
  have hxL : x ≠ hp.objs.size := Nat.ne_of_lt (Heap.lt_size hx)
  obtain ⟨mb, hb0, hbm⟩ := hbt
  obtain ⟨cdC, hcC⟩ : ∃ cd, clsIn K C = some cd := by
    have := T.hdC
    unfold hasDictIn at this
    cases e : clsIn K C with
    | none => rw [e] at this; simp at this
    | some cd => exact ⟨cd, rfl⟩
  obtain ⟨oD, hD1, hD2⟩ : ∃ oD, h₁.get? C = some oD ∧ oD.data = .cls cdC := by
    have hcC' := hcC
    unfold clsIn at hcC'
    split at hcC'
    · rename_i c d cd' sl ho
      cases hcC'
      exact ⟨_, X₁ _ _ ho, rfl⟩
    · cases hcC'
  have hself : ([("self", Value.ref x), (fld, v)] : List (Str × Value)).reverse.lookup ("self" : Str) = some (Value.ref x) := by
    have e : (("self" : Str) == fld) = false := by simpa using Ne.symm T.ini.ne
    simp [List.lookup, e]
  have hfld : ([("self", Value.ref x), (fld, v)] : List (Str × Value)).reverse.lookup fld = some v := by simp [List.lookup]
  rw [hbody]
  show PySem.wpAt _ _ (.func _ (ksEnv qual (defScope st) hp.objs.size fI (.ref cda) cc)) (execs _ (ksEnv qual (defScope st) hp.objs.size fI (.ref cda) cc)) _ _ _
  obtain ⟨pl, hev⟩ := hev (ksEnv qual (defScope st) hp.objs.size fI (.ref cda) cc)
  refine ks_wpAt_execs_cons (ks_wpAt_Expr_any (ks_wpAt_MethodCall (pl := pl) ?_ hev) (by simp [interactive, T.ini.kind]))
  refine ks_wpAt_super_base (env := ksEnv qual (defScope st) hp.objs.size fI (.ref cda) cc) T.ini.lsu T.ini.lc (by decide) rfl (X₁ _ _ hfI) rfl hpar rfl (X₁ _ _ hcode) rfl hvs hfile T.top ?_
  refine ks_loadName_global T.ini.kind T.ini.lsu (loadGlobal_builtin (env := ksEnv qual (defScope st) hp.objs.size fI (.ref cda) cc) (hg.keeps k₁) (mg_none_of X hg T.sup) (hb0.keeps k₁) ((hbm _ (by decide +kernel)).trans (by decide +kernel)) ⟨rfl, ?_⟩)
  refine wpAny_loadName_free T.ini.kind T.ini.lc rfl ⟨_, X₁ _ _ hcell, rfl⟩ ?_
  refine wpAny_loadName_local T.ini.kind T.ini.ls hn hself ?_
  refine ks_wpAny_isType_cls hD1 hD2 ⟨rfl, ?_⟩
  refine ks_wpAny_call_super hD1 hD2 hx₁ rfl (fun c e => by cases e) (looks_mroIn X₁ T.mro) (fun h₂ hso k₂ => ?_)
  have X₂ : K.In h₂ := X₁.keeps k₂
  have hx₂ := k₂ _ _ hx₁
  have hI : Looks (model P w) h₂ (isInstance (.ref x) (.type B)) true := (InstAt.type (ox := excObj C t0 none .none) (od := none) ⟨hx₂, rfl, rfl, trivial⟩).andThen (looks_subIn X₂ T.exB)
  have hxC : x ≠ C := fun z => by
    rw [← z] at hD1
    rw [hx₁] at hD1
    cases hD1
    cases hD2
  have alo := T.alo
  unfold ks_superIn at alo
  rw [hcC] at alo
  refine kxs_getMethod T.kxs hso (looks_opaque X₂ T.opq) (l₀ := cdC.mro) (fun A Q E s k q => wpAny_bind ((looks_clsIn X₂ hcC) A _ E s k (wpAny_pure q))) rfl X₂ alo hI hxC (by decide) ?_
  have k₃ : ∀ b o, h₂.get? b = some o → (h₂.push (kxs_mw initId x)).get? b = some o := fun b o e => Heap.get?_push_of_some _ e
  have hu : (h₂.push (kxs_mw initId x)).get? h₂.objs.size = some (kxs_mw initId x) := Heap.get?_push_at rfl rfl
  refine kxs_callWith (i := initId) (x := x) rfl ?_
  refine evalArgs_plain ?_
  refine spliced_cons (Constant_str (k := j) (pos := a4) ?_)
  refine spliced_nil ⟨hu, ?_⟩
  have hLs : hp.objs.size < h₂.objs.size := by
    obtain ⟨oL, _, _, hL, _⟩ := hn
    exact Heap.lt_size (k₂ _ _ hL)
  have hux : h₂.objs.size ≠ x := Nat.ne_of_gt (Heap.lt_size hx₂)
  have X₀ : K.In (hideAll hp [x]) := fun a o e => hideAll_get _ (X a o e) (by
    intro z
    have z' : a = x := by simpa using z
    rw [z', hnx] at e
    cases e)
  have kk : ∀ b o, (hideAll hp [x]).get? b = some o → (h₂.push (kxs_mw initId x)).get? b = some o := fun b o e => k₃ _ _ (k₂ _ _ (k₁ _ _ (of_hideAll [x] e)))
  have F₀ : Fr (hideAll hp [x]) hp.objs.size (h₂.push (kxs_mw initId x)) (fun y => ([("self", Value.ref x), (fld, v)] : List (Str × Value)).reverse.lookup y) := ⟨(hn.keeps k₂).keeps k₃, kk, Nat.le_of_eq (hideAll_size _ _)⟩
  have N₀ : News (hideAll hp [x]) hp.objs.size (h₂.push (kxs_mw initId x)) [(h₂.objs.size, kxs_mw initId x), (x, excObj C t0 none .none)] := by
    intro p hpm
    rcases List.mem_cons.mp hpm with rfl | hpm
    · refine ⟨hu, Nat.ne_of_gt hLs, Heap.get?_none_of_le (by rw [hideAll_size]; exact Nat.le_of_lt hLs)⟩
    · have e : p = (x, excObj C t0 none .none) := by simpa using hpm
      subst e
      exact ⟨k₃ _ _ hx₂, hxL, hideAll_none _ (by simp)⟩
  refine kxs_call (s := ⟨h₂.push (kxs_mw initId x), g, d, _, os⟩) F₀ X₀ N₀ T.eb T.ei (List.mem_cons_self) (.tail hux (.head fun _ z => nomatch z)) (by rw [sizeLine_eq]; exact (by decide : 1 ≤ 16777216)) fun t' h' F' N' _ => ?_
  have hx' : h'.get? x = some (excObj C t' none .none) := (N' (x, excObj C t' none .none) (by simp)).1
  have X' : K.In h' := X₀.keeps F'.keep
  have hLs' : hp.objs.size < h'.objs.size := by
    obtain ⟨oL, _, _, hL, _⟩ := F'.ns
    exact Heap.lt_size hL
  refine wpAt_of_wpAny (wpAny_execs_cons (plainObj_wpAny_Assign_Attribute ?_))
  refine wpAny_Name (wpAny_loadName_local T.ini.kind T.ini.lf F'.ns hfld ?_) T.ini.nd
  refine wpAny_Name (wpAny_loadName_local T.ini.kind T.ini.ls F'.ns hself ?_) (by decide)
  refine xc_store (s := ⟨h', g, d, _, os⟩) T X' hx' fun h'' tk'' dx kp dn dne ho hns => wpAny_execs_nil ?_
  exact hq h'' tk'' dx t' ⟨fun b o hb e => kp b o hb (F'.keep b o (hideAll_get _ e (by simpa using hb))), ho, Nat.le_trans (Nat.le_of_lt hLs') dn, dne, hns⟩
/-- a made error -/
structure XMade (h h' : Heap) (e C d : Addr) (fld : Str) (v : Value) : Prop where
  keep : ∀ b o, h.get? b = some o → h'.get? b = some o
  new : h.objs.size ≤ e
  obj : ∃ oe vs, h'.get? e = some oe ∧ oe.cls = .ref C ∧ oe.dict = some d ∧ oe.data = .fields vs ∧ vs[1]? = some .none
  dbig : h.objs.size ≤ d
  dne : d ≠ e
  ns : h'.Ns1 d (fun y => if y = fld then some v else none)
theorem xc_made (T : ExTxt P K st C fI cc cda fd B newId initId bmB fld) {v : Value} (X : K.In s.heap) (hg : s.heap.Ns mainGlobals mg) (hbt : ∃ mb, s.heap.Ns builtinsNs mb ∧ ∀ x : Str, x ≠ "__name__" → mb x = bootBuiltins x) (hlim : s.heap.NoLimit) (hroom : A.depth + 1 < recursionLimit)
    (hq : ∀ h' tk e d, XMade s.heap h' e C d fld v → R (.ok (.ret (.ref e))) { s with heap := h', toks := tk }) :
    codeAny (model P w) A (.call (.ref C) ⟨[v], []⟩) R s := by
  obtain ⟨nm, N, qn, bs, bm, hdct, sn, sub, ab, col, dd, k0, k1, k2, k3, k5, hC, hT⟩ := excInit_of X T.ei
  obtain ⟨hp, g, dr, tk, os⟩ := s
  have k : ∀ b o, hp.get? b = some o → ((hp.push (kdv_tup [v])).push (excO C hp.objs.size)).get? b = some o := fun b o e => Heap.get?_push_of_some _ (Heap.get?_push_of_some _ e)
  have hget : ((hp.push (kdv_tup [v])).push (excO C hp.objs.size)).get? (hp.objs.size + 1) = some (excObj C hp.objs.size none .none) := by heap_get
  have hnx : K.lookup (hp.objs.size + 1) = none := by
    cases e : K.lookup (hp.objs.size + 1) with
    | none => rfl
    | some o => exact absurd (Nat.lt_of_succ_lt (Heap.lt_size (show hp.get? (hp.objs.size + 1) = some o from X _ _ e))) (Nat.lt_irrefl _)
  obtain ⟨mb, hb0, hbm⟩ := hbt
  refine call_own T.eb hT hC (looks_findIn X T.iC) (fun self => bind_fn X self T.tC) (by rw [sizeLine_eq]; exact (by decide : 1 ≤ 16777216)) ?_
  refine xc_init (s := ⟨(hp.push (kdv_tup [v])).push (excO C hp.objs.size), g, dr, tk, os⟩) T (X.keeps k) (hg.keeps k) ⟨mb, hb0.keeps k, hbm⟩ (hlim.keeps k) hget hnx hroom fun h' tk' dx t1 M => ?_
  have z : hp.objs.size + 1 + 1 ≤ dx := by
    have q := M.dbig
    simpa only [Heap.size_push] using q
  exact ⟨rfl, hq h' tk' (hp.objs.size + 1) dx ⟨fun b o e => M.keep b o (Nat.ne_of_lt (Nat.lt_succ_of_lt (Heap.lt_size e))) (k b o e), Nat.le_succ _, ⟨_, _, M.obj, rfl, rfl, rfl, rfl⟩, by show hp.objs.size ≤ dx; omega, M.dne, M.ns⟩⟩
end
end Lad
namespace Lad
open PySem L2
theorem relO_one {v : V} {v' : Value} (r : RelV v v') (g f : Str) : RelO (List.lookup f [(g, v)]) (if f = g then some v' else none) := by
  by_cases hw : f = g
  · subst hw
    rw [if_pos rfl]
    have q : List.lookup f [(f, v)] = some v := by simp [List.lookup]
    rw [q]
    exact r
  · rw [if_neg hw]
    have qw : (f == g) = false := by simpa using hw
    have q2 : List.lookup f [(g, v)] = none := by simp [List.lookup, qw]
    rw [q2]
    trivial
section
variable {X : Cx} {st : Stmt} {C fI cc cda : Addr} {fd : FuncData} {B newId initId : String} {bmB : List Value} {fld : Str}
def tMkX (C : Addr) (fld : Str) (ta : TA) : St → Hp → XK → Prop := fun σ H Q => ta σ H fun vs H1 => ∃ v, vs = [v] ∧ ∀ d, H1 d = none → Q (.ref C) (some d) (upd H1 d (.xd [(fld, v)]))
theorem pmk_x {x : Str} {a : Expr} {ta : TA} {p pos : Pos} {k : Nat} (T : ExTxt X.prog X.K st C fI cc cda fd B newId initId bmB fld) (hr : Room k X.A) (gC : X.mg x = some (.ref C)) (ha : PA X [a] ta) (hg : Gl X x := by rfl) (hdb : (x == ("__debug__" : Str)) = false := by decide)
    (he : starEach (a :: []) X.env = (false, eval a X.env) :: starEach [] X.env := by rfl) (hpl : (backTo pos (starEach [] X.env)).any (·.1) = false := by rfl) :
    PMk X (.Call (.Name x p) [a] [] pos) (tMkX C fld ta) := by
  intro pins s σ H Q I h
  refine wpAny_Call_Name_kw (ld_glob I hg gC ?_ hdb)
  refine PySem.W.callWith_K (h₀ := X.base) I.ok.mod.kin T.kC (thn (ha.run pos pins s σ H _ I h) fun us s1 hh => ?_) he hpl
  obtain ⟨vs, H1, I1, r1, v, ev, q1⟩ := hh
  subst ev
  refine ⟨I1.kIn, ?_⟩
  cases r1 with
  | cons rv rn =>
    rename_i v' us'
    cases rn
    have hlim := I1.nolimit
    obtain ⟨mb, hb0, hbm⟩ := I1.ok.mod.blt
    have hg1 := I1.ok.mod.glob.keeps I1.bk
    have hb1 := hb0.keeps I1.bk
    obtain ⟨hp, g, dr, tk, os⟩ := s1
    refine wpAny_call (xc_made T I1.kIn hg1 ⟨mb, hb1, hbm⟩ hlim (by have := hr.dp; omega) fun h' tk' e d M => ?_)
    show MkP X pins σ Q (.ref e) ⟨h', g, dr, tk', os⟩
    obtain ⟨oe, fv, hoe, hc, hd, hdat, h1⟩ := M.obj
    have hns := M.ns
    obtain ⟨G', g1, g2⟩ := restrict h' fun b => decide (b ≠ e)
    have gk : ∀ b, b ≠ e → G'.get? b = h'.get? b := fun b hb => g1 b (decide_eq_true hb)
    have ge : G'.get? e = none := g2 e (by simp)
    have old : ∀ b o, hp.get? b = some o → G'.get? b = some o := fun b o q => (gk b (Nat.ne_of_lt (Nat.lt_of_lt_of_le (Heap.lt_size q) M.new))).trans (M.keep b o q)
    have ob : ObjOk X.prog X.w (upd H1 d (.xd [(fld, v)])) G' d (.xd [(fld, v)]) := ⟨_, hns.at (fun o q => (gk d M.dne).trans q), fun f => relO_one rv fld f⟩
    have J : Inv X pins σ (upd H1 d (.xd [(fld, v)])) ⟨G', g, dr, tk', os⟩ := I1.laid (t' := tk') old M.dbig ob
    refine ⟨e, oe, fv, ⟨G', g, dr, tk', os⟩, _, .ref C, some d, rfl, J, fun b o q => ?_, ge, hoe, ⟨hc, hd⟩, hdat, h1, ?_, rfl, I1.bare, raises_own T.exC T.tyC, q1 d (I1.hok.fresh M.dbig)⟩
    · by_cases hb : b = e
      · have q' : G'.get? b = some o := q
        rw [hb, ge] at q'; cases q'
      · exact (gk b hb).symm.trans q
    · rw [upd_ne (Ne.symm M.dne)]
      exact I1.hok.fresh M.new
end
/-! ### raise X(e) -/
def sRaise (c : Nat) (f : En → Hea → Res Val) : En → Hea → SRes := fun e h => ofR (f e h) e fun d h1 => .exc c d e h1
section
variable {T : Tb} {X : Cx} {W : WX} {st : Stmt} {fI cc cda : Addr} {fd : FuncData} {B newId initId : String} {bmB : List Value} {c : Nat} {x : Str} {a : Expr} {f : En → Hea → Res Val} {p pos pos2 : Pos} {k : Nat}
theorem st_raise (hc : X.calm = true) (E : ExTxt X.prog X.K st (T.ca c) fI cc cda fd B newId initId bmB (T.fld c)) (hr : Room k X.A) (gC : X.mg x = some (.ref (T.ca c))) (tk : Takes X W) (ha : SE T X W a f) (hg : Gl X x := by rfl) (hdb : (x == ("__debug__" : Str)) = false := by decide)
    (he : starEach (a :: []) X.env = (false, eval a X.env) :: starEach [] X.env := by rfl) (hpl : (backTo pos (starEach [] X.env)).any (·.1) = false := by rfl) :
    SSt T X W (.Raise (some (.Call (.Name x p) [a] [] pos)) none pos2) (sRaise c f) := (ps_raise hc tk (pmk_x E hr gC (pa_cons ha pa_nil he) hg hdb he hpl)).imp fun D σ H q => by
  obtain ⟨ρ, e, h, R, E, a⟩ := q
  refine ⟨ρ, e, h, R, E, (a.ofR E).mono fun v H1 ⟨ρ1, d, h1, s, R1, r, E1, a1⟩ => ⟨v, rfl, fun dx hd => ?_⟩⟩
  exact a1 ρ1 v σ _ dx (.side hd) (R1.side hd) (r.mono (.side hd)) (E1.mono (.side hd)) upd_same
end
end Lad
end
/-! ## LadTry -/
section
set_option maxRecDepth 100000
set_option maxHeartbeats 2000000
namespace Lad
open PySem L2
/-! ### no error inside -/
mutual
def Val.noEx : Val → Bool
  | .tup xs => noExL xs
  | .lst xs => noExL xs
  | .dic _ _ xs => noExL xs
  | .obj _ _ xs => noExL xs
  | .exn _ _ => false
  | _ => true
def noExL : List Val → Bool
  | [] => true
  | x :: xs => x.noEx && noExL xs
end
def noExKv : List (Val × Val) → Bool
  | [] => true
  | (a, b) :: xs => b.noEx && noExKv xs
def noExFs : List (Nat × Val) → Bool
  | [] => true
  | (a, b) :: xs => b.noEx && noExFs xs
def Ob.noEx : Ob → Bool
  | .lst xs => noExL xs
  | .fro _ => true
  | .dcK xs => noExKv xs
  | .dcT xs => noExKv xs
  | .ins _ fs => noExFs fs
def noExH : Hea → Bool
  | [] => true
  | o :: os => o.noEx && noExH os
def noExE : En → Bool
  | [] => true
  | none :: r => noExE r
  | some v :: r => v.noEx && noExE r
/-- the same tables but for the handled error -/
def Sy.like (S S' : Sy) : Prop := S.K = S'.K ∧ S.ca = S'.ca ∧ S.nm = S'.nm ∧ S.fld = S'.fld
section
variable {S S' : Sy} {ρ : Own} {H : Hp}
mutual
theorem Rep.no : ∀ {d : Val} {v : V}, S.ex = none → Rep S ρ H d v → d.noEx = true
  | _, _, _, .non => rfl
  | _, _, _, .bl _ => rfl
  | _, _, _, .int _ => rfl
  | _, _, _, .str _ => rfl
  | _, _, h, .tup _ r => by simp only [Val.noEx]; exact Reps.no h r
  | _, _, h, .lst _ _ r => by simp only [Val.noEx]; exact Reps.no h r
  | _, _, h, .dicK _ _ _ _ r => by simp only [Val.noEx]; exact Reps.no h r
  | _, _, h, .dicT _ _ _ _ r => by simp only [Val.noEx]; exact Reps.no h r
  | _, _, h, .obj _ _ _ _ r => by simp only [Val.noEx]; exact Reps.no h r
  | _, _, _, .ref _ => rfl
  | _, _, h, .exn e _ _ => by rw [h] at e; cases e
theorem Reps.no : ∀ {d : List Val} {v : List V}, S.ex = none → Reps S ρ H d v → noExL d = true
  | _, _, _, .nil => rfl
  | _, _, h, .cons r t => by simp only [noExL, Rep.no h r, Reps.no h t, Bool.and_self]
end
mutual
theorem Rep.like (l : S.like S') : ∀ {d : Val} {v : V}, d.noEx = true → Rep S ρ H d v → Rep S' ρ H d v
  | _, _, _, .non => .non
  | _, _, _, .bl _ => .bl _
  | _, _, _, .int _ => .int _
  | _, _, _, .str _ => .str _
  | _, _, h, .tup s r => .tup (by rw [← l.1]; exact s) (Reps.like l (by simpa [Val.noEx] using h) r)
  | _, _, h, .lst f q r => .lst f q (Reps.like l (by simpa [Val.noEx] using h) r)
  | _, _, h, .dicK f q e1 e2 r => .dicK f q e1 e2 (Reps.like l (by simpa [Val.noEx] using h) r)
  | _, _, h, .dicT f q e1 e2 r => .dicT f q e1 e2 (Reps.like l (by simpa [Val.noEx] using h) r)
  | _, _, h, .obj f q e1 e2 r => .obj f (by rw [← l.2.1]; exact q) (by rw [← l.2.2.1]; exact e1) e2 (Reps.like l (by simpa [Val.noEx] using h) r)
  | _, _, _, .ref e => .ref e
  | _, _, h, .exn _ _ _ => by simp [Val.noEx] at h
theorem Reps.like (l : S.like S') : ∀ {d : List Val} {v : List V}, noExL d = true → Reps S ρ H d v → Reps S' ρ H d v
  | _, _, _, .nil => .nil
  | _, _, h, .cons r t => by
    simp only [noExL, Bool.and_eq_true] at h
    exact .cons (Rep.like l h.1 r) (Reps.like l h.2 t)
end
theorem KvR.like {κ : Type} {kd : κ → Val} (l : S.like S') : ∀ {d : List (Val × Val)} {v : List (κ × V)}, noExKv d = true → KvR S ρ H kd d v → KvR S' ρ H kd d v
  | _, _, _, .nil => .nil
  | _, _, h, .cons r t => by
    simp only [noExKv, Bool.and_eq_true] at h
    exact .cons (Rep.like l h.1 r) (KvR.like l h.2 t)
theorem FsR.like (l : S.like S') : ∀ {d : List (Nat × Val)} {v : List (Str × V)}, noExFs d = true → FsR S ρ H d v → FsR S' ρ H d v
  | _, _, _, .nil => .nil
  | _, _, h, .cons r t => by
    simp only [noExFs, Bool.and_eq_true] at h
    rw [l.2.2.1]
    exact .cons (Rep.like l h.1 r) (FsR.like l h.2 t)
theorem KvR.no {κ : Type} {kd : κ → Val} (h : S.ex = none) : ∀ {d : List (Val × Val)} {v : List (κ × V)}, KvR S ρ H kd d v → noExKv d = true
  | _, _, .nil => rfl
  | _, _, .cons r t => by simp only [noExKv, Rep.no h r, KvR.no h t, Bool.and_self]
theorem FsR.no (h : S.ex = none) : ∀ {d : List (Nat × Val)} {v : List (Str × V)}, FsR S ρ H d v → noExFs d = true
  | _, _, .nil => rfl
  | _, _, .cons r t => by simp only [noExFs, Rep.no h r, FsR.no h t, Bool.and_self]
theorem ObR.like (l : S.like S') {o : Ob} {a : Addr} (h : o.noEx = true) (r : ObR S ρ H o a) : ObR S' ρ H o a := by
  cases r with
  | lst h1 h2 => exact .lst h1 (h2.like l h)
  | fro h1 => exact .fro h1
  | dcK h1 h2 => exact .dcK h1 (h2.like l h)
  | dcT h1 h2 => exact .dcT h1 (h2.like l h)
  | ins h1 h2 => exact .ins (by rw [← l.2.1]; exact h1) (h2.like l h)
theorem ObR.no (h : S.ex = none) {o : Ob} {a : Addr} (r : ObR S ρ H o a) : o.noEx = true := by
  cases r with
  | lst h1 h2 => exact h2.no h
  | fro h1 => rfl
  | dcK h1 h2 => exact h2.no h
  | dcT h1 h2 => exact h2.no h
  | ins h1 h2 => exact h2.no h
theorem noExH_get : ∀ {h : Hea} {i : Nat} {o : Ob}, noExH h = true → h[i]? = some o → o.noEx = true
  | o :: os, 0, _, h, e => by
    simp only [noExH, Bool.and_eq_true] at h
    cases e
    exact h.1
  | o :: os, i + 1, _, h, e => by
    simp only [noExH, Bool.and_eq_true] at h
    exact noExH_get (i := i) h.2 e
  | [], _, _, _, e => by simp at e
theorem Rel.like {h : Hea} (l : S.like S') (hn : ∀ (i : Nat) (o : Ob), h[i]? = some o → o.noEx = true) (R : Rel S ρ h H) : Rel S' ρ h H := ⟨R.len, R.inj, fun i o a e1 e2 => (R.ob i o a e1 e2).like l (hn i o e1), R.hid⟩
theorem Rel.no {h : Hea} (hx : S.ex = none) (R : Rel S ρ h H) : ∀ (i : Nat) (o : Ob), h[i]? = some o → o.noEx = true := fun i o e => by
  obtain ⟨a, _, r⟩ := R.at e
  exact r.no hx
theorem ER.like (l : S.like S') : ∀ {e : En} {σ : St}, noExE e = true → ER S ρ H e σ → ER S' ρ H e σ
  | _, _, _, .nil => .nil
  | none :: _, _, h, .cons r t => .cons (fun x e => nomatch e) (ER.like l h t)
  | some v :: _, _, h, .cons r t => by
    simp only [noExE, Bool.and_eq_true] at h
    exact .cons (fun x e => by
      obtain ⟨y, ey, q⟩ := r x e
      cases e
      exact ⟨y, ey, q.like l h.1⟩) (ER.like l h.2 t)
theorem ER.no (hx : S.ex = none) : ∀ {e : En} {σ : St}, ER S ρ H e σ → noExE e = true
  | _, _, .nil => rfl
  | none :: _, _, .cons r t => by
    simp only [noExE]
    exact ER.no hx t
  | some v :: _, _, .cons r t => by
    obtain ⟨y, ey, q⟩ := r v rfl
    simp only [noExE, q.no hx, ER.no hx t, Bool.and_self]
theorem Kp.like (l : S.like S') {H' : Hp} (k : Kp S H H') : Kp S' H H' := ⟨fun a xs h => by rw [← l.1] at h ⊢; exact k.1 a xs h, k.2⟩
theorem Go.like (l : S.like S') {ρ' : Own} {H' : Hp} (g : Go S ρ H ρ' H') : Go S' ρ H ρ' H' := ⟨g.sub, g.kp.like l, g.fr, g.nw, g.hd⟩
end
/-! ### try: body; except X as n: suite -/
/-- what a suite leaves -/
def suiteEnd (i : Nat) (h1 : Hea) : SRes → SRes
  | .rt v h2 => if (noExH h2 && v.noEx) = true then .rt v h2 else .stuck
  | .nx e2 h2 => if (noExH h2 && noExE (e2.set i none)) = true then .nx (e2.set i none) h2 else .stuck
  | _ => .stuck
def sTry1 (sub : Nat → Option Bool) (i : Nat) (fb fs : En → Hea → SRes) : En → Hea → SRes := fun e h => match fb e h with
  | .exc c d e1 h1 => match sub c with
    | some true => suiteEnd i h1 (fs (e1.set i (some (.exn c d))) h1)
    | some false => .exc c d e1 h1
    | none => .stuck
  | r => r
section
variable {T : Tb} {X : Cx} {W : WX} {x n : Str} {cv : Value} {i : Nat} {body suite : List Stmt} {b₀ : Stmt} {np pos pos' : Pos} {fb fs : En → Hea → SRes} {sub : Nat → Option Bool}
abbrev Tb.at (T : Tb) (a : Addr) (c : Nat) (dx : Addr) : Tb := { T with ex := some (a, c, dx) }
theorem like_at {a : Addr} {c : Nat} {dx : Addr} : (sy T X).like (sy (T.at a c dx) X) := ⟨rfl, rfl, rfl, rfl⟩
theorem like_off {a : Addr} {c : Nat} {dx : Addr} : (sy (T.at a c dx) X).like (sy T X) := ⟨rfl, rfl, rfl, rfl⟩
theorem ends_ok {i : Nat} {a : Addr} {c : Nat} {dx : Addr} {ρ : Own} {H : Hp} {h1 : Hea} {r : SRes} {D : Ends} (hx : T.ex = none) (R : Rel (sy T X) ρ h1 H) (q : AftS (sy T X) ρ H (suiteEnd i h1 r) D W) :
    AftS (sy (T.at a c dx) X) ρ H r { nx := fun σ' H' => D.nx (σ'.set i none) H', rt := D.rt, bk := fun σ' H' => D.bk (σ'.set i none) H', ct := fun σ' H' => D.ct (σ'.set i none) H' } W0 := by
  have hn := R.no hx
  cases r with
  | rt v h2 =>
    unfold suiteEnd at q
    dsimp only at q
    split at q
    · rename_i hb
      simp only [Bool.and_eq_true] at hb
      exact fun ρ1 u H1 s R1 r1 => q ρ1 u H1 (s.like like_off) (R1.like like_off (fun _ _ z => noExH_get hb.1 z)) (r1.like like_off hb.2)
    · exact q.elim
  | nx e2 h2 =>
    unfold suiteEnd at q
    dsimp only at q
    split at q
    · rename_i hb
      simp only [Bool.and_eq_true] at hb
      exact fun ρ1 σ1 H1 s R1 E1 => q ρ1 _ H1 (s.like like_off) (R1.like like_off (fun _ _ z => noExH_get hb.1 z)) ((E1.gone i).like like_off hb.2)
    · exact q.elim
  | bk e2 h2 => exact q.elim
  | ct e2 h2 => exact q.elim
  | exc c2 d2 e2 h2 => exact q.elim
  | stuck => exact q.elim
theorem st_try1 (hx : T.ex = none) (hs : X.stack = X.env :: X.outer) (hf : X.env.frame = some X.env.locals) (hN : X.N.Nodup) (hi : X.N[i]? = some n) (hln : X.env.kindOf n = some .local) (hc : Names X x cv) (tk : Takes X W)
    (hsub : ∀ c b, sub c = some b → PySem.W.exmOne X.K (.ref (T.ca c)) cv = some b)
    (hb : ∀ (W : WX) (pn : List (Addr × Obj)) (xe : Value → Shared → Prop), Takes (X.tr pn xe) W → PassesOwn (model X.prog X.w) X.A X.env xe → SSs T (X.tr pn xe) W body fb)
    (hsu : ∀ (a : Addr) (oe : Obj) (c : Nat) (dx : Addr) (pn : List (Addr × Obj)), sub c = some true → Zc (.ref (T.ca c)) (some dx) oe → (∃ vs, oe.data = .fields vs) → SSs (T.at a c dx) (X.suite a ((a, oe) :: pn)) W0 (b₀ :: suite) fs) :
    SSt T X W (.Try body [.ExceptHandler (some (.Name x np)) (some n) (b₀ :: suite) pos'] [] [] pos) (sTry1 sub i fb fs) := by
  refine PS.imp (ps_try_as (tb := fun W' => tS (sy T X) W' fb) (ts := fun a cls d D σ H => ∃ c dx, sub c = some true ∧ cls = .ref (T.ca c) ∧ d = some dx ∧ tS (sy (T.at a c dx) X) W0 fs D σ H) hs hf hN hi hln hc tk (fun W' pn xe tk' po => hb W' pn xe tk' po) (fun a oe cls d pn hz hff => ?_)) fun D σ H q => ?_
  · refine ⟨fun pins s σ H D I q => ?_⟩
    obtain ⟨c, dx, hsc, rfl, rfl, q⟩ := q
    exact (hsu a oe c dx pn hsc hz hff).run pins s σ H D I q
  · obtain ⟨ρ, e, h, R, E, a⟩ := q
    refine ⟨ρ, e, h, R, E, ?_⟩
    unfold sTry1 at a
    revert a
    cases fb e h with
    | nx e1 h1 => exact id
    | rt v h1 => exact id
    | bk e1 h1 => exact id
    | ct e1 h1 => exact id
    | stuck => exact id
    | exc c d e1 h1 =>
      intro a ρ1 v σ1 H1 dx s R1 r1 E1 hdx
      dsimp only at a
      cases hsb : sub c with
      | none => rw [hsb] at a; exact a.elim
      | some b =>
        rw [hsb] at a
        refine ⟨b, hsub c b hsb, fun hb1 ax hax => ?_, fun hb1 => ?_⟩
        · subst hb1
          refine ⟨c, dx, hsb, rfl, rfl, ρ1, _, h1, R1.like like_at (R1.no hx), ?_, ends_ok (W := W) hx R1 (AftS.later a s)⟩
          exact ER.set (S := sy (T.at ax c dx) X) (Rep.exn (S := sy (T.at ax c dx) X) rfl hdx (r1.like like_at (r1.no hx))) i (E1.like like_at (E1.no hx))
        · subst hb1
          exact a ρ1 v σ1 H1 dx s R1 r1 E1 hdx
end
/-! ### e.f in the suite -/
def oExF : Hea → Val → Option Val
  | _, .exn _ d => some d
  | _, _ => none
section
variable {T : Tb} {X : Cx} {a dx : Addr} {c : Nat} {oe : Obj} {pn : List (Addr × Obj)} {e : Expr} {f : En → Hea → Res Val} {pos : Pos} {nm : Str}
theorem se_xf (XC : XfC X.K (T.ca c)) (hno : PySem.W.findIn X.K (.ref (T.ca c)) nm = some none) (hnm : T.fld c = nm) (hz : Zc (.ref (T.ca c)) (some dx) oe) (hf : ∃ vs, oe.data = .fields vs) (he : SE (T.at a c dx) (X.suite a ((a, oe) :: pn)) W0 e f)
    (hb : attributeBase e nm X.env (eval e X.env) = eval e X.env := by rfl) : SE (T.at a c dx) (X.suite a ((a, oe) :: pn)) W0 (.Attribute e nm pos) (eUn oExF f) := (pe_xf XC hno hz hf he hb).imp fun σ H Q q => by
  obtain ⟨ρ, e, h, R, E, a1⟩ := tE.bind (f := f) (g := fun e x h1 => opt (oExF h1 x) h1) q
  refine ⟨ρ, e, h, R, E, a1.mono fun v H1 ⟨ρ1, e1, d1, h1, b1, a2⟩ => ?_⟩
  obtain ⟨R1, E1, r1⟩ := b1
  unfold oExF at a2
  split at a2
  · cases r1 with
    | exn h1 h2 r =>
      cases h1
      refine ⟨rfl, rfl, dx, _, _, rfl, h2, ?_, a2.same R1 r⟩
      subst hnm
      simp [List.lookup]
  · exact a2.elim
end
end Lad
end
/-! ## LadIs -/
section
set_option maxRecDepth 100000
set_option maxHeartbeats 2000000
namespace Lad
open PySem L2
/-! ### isinstance(e, c) in a suite -/
def rIsX (K : PySem.W.Frag) (D a dx : Addr) : List V → Hp → VK → Prop := fun xs H Q => ∃ (c : V) (cv : Value) (b : Bool) (fs : List (Str × V)), xs = [.ref a, c] ∧ (∀ u, RelV c u → u = cv) ∧ PySem.W.kitOne K (.ref D) cv = some b ∧ H dx = some (.xd fs) ∧ Q (.bl b) H
theorem call_isX {X : Cx} {a D dx : Addr} {oe : Obj} {pn : List (Addr × Obj)} (C : ExcC X.K D) (hz : Zc (.ref D) (some dx) oe) (hf : ∃ vs, oe.data = .fields vs) : CallR (X.suite a ((a, oe) :: pn)) (.builtin "isinstance") (rIsX X.K D a dx) := by
  intro pins s σ H xs us Q I r h
  obtain ⟨c, cv, b, fs, rfl, hcv, e, hdx, q⟩ := h
  match us, r with
  | [_, _], .cons rx (.cons rt .nil) =>
    cases rx
    obtain rfl := hcv _ rt
    obtain ⟨hget, _⟩ := I.pin (a, oe) (List.mem_append_left _ List.mem_cons_self)
    obtain ⟨vs, hd⟩ := hf
    have hx : ObjOk X.prog X.w H s.heap dx (.xd fs) := I.hok dx _ hdx
    obtain ⟨mA, hns, hr⟩ := hx
    obtain ⟨od, ho, hl⟩ := lookIn_ns hns
    have J : PySem.W.InstAt s.heap a oe D (some od) := ⟨hget, hz.1, by unfold PySem.W.notCls; rw [hd] <;> rfl, by rw [hz.2]; exact ho⟩
    have hcl : (PySem.W.clsIn X.K D).isSome = true := by
      have := C.hd
      unfold PySem.W.hasDictIn at this
      cases e : PySem.W.clsIn X.K D with
      | none => rw [e] at this; simp at this
      | some cd => rfl
    exact PySem.W.kia_one (PySem.W.kitx_exc hcl C.hg C.hk C.hs C.ha C.hn C.ht C.hm) I.kIn J e (fun z => nomatch z) fun tk => ⟨.bl b, H, I.kept (t' := tk) fun _ _ z => z, rfl, q⟩
def oIsX (tab : Nat → Option Bool) : Hea → Val → Option Val
  | _, .exn c _ => (tab c).map .bl
  | _, _ => none
section
variable {T : Tb} {X : Cx} {a dx : Addr} {c : Nat} {oe : Obj} {pn : List (Addr × Obj)} {e : Expr} {f : En → Hea → Res Val} {pos p p1 : Pos} {x : Str} {cV : V} {cv : Value} {tab : Nat → Option Bool}
theorem se_isX (C : ExcC X.K (T.ca c)) (hz : Zc (.ref (T.ca c)) (some dx) oe) (hf : ∃ vs, oe.data = .fields vs) (hm : X.mg "isinstance" = none) (he : SE (T.at a c dx) (X.suite a ((a, oe) :: pn)) W0 e f)
    (hc : PE (X.suite a ((a, oe) :: pn)) (.Name x p1) (tC cV)) (hcv : ∀ u, RelV cV u → u = cv) (ht : ∀ b, tab c = some b → PySem.W.kitOne X.K (.ref (T.ca c)) cv = some b) (hg : Gl X "isinstance" := by rfl)
    (hs : starEach (e :: [.Name x p1]) X.env = (false, eval e X.env) :: starEach [.Name x p1] X.env := by rfl) :
    SE (T.at a c dx) (X.suite a ((a, oe) :: pn)) W0 (.Call (.Name "isinstance" p) [e, .Name x p1] [] pos) (eUn (oIsX tab) f) := by
  refine PE.imp (pe_callB (call_isX C hz hf) hg hm (by decide +kernel) (pa_cons he (pa_cons hc pa_nil) hs) (he := hs)) fun σ H Q q => ?_
  obtain ⟨ρ, e, h, R, E, a1⟩ := tE.bind (f := f) (g := fun e x h1 => opt (oIsX tab h1 x) h1) q
  refine ⟨ρ, e, h, R, E, a1.mono fun v H1 ⟨ρ1, e1, d1, h1, b1, a2⟩ => ?_⟩
  obtain ⟨R1, E1, r1⟩ := b1
  show rIsX X.K (T.ca c) a dx [v, cV] H1 Q
  unfold oIsX at a2
  split at a2
  · cases r1 with
    | exn h1 h2 r =>
      cases h1
      cases ht1 : tab c with
      | none => rw [ht1] at a2; exact a2.elim
      | some b =>
        rw [ht1] at a2
        exact ⟨cV, cv, b, _, rfl, hcv, ht b ht1, h2, Aft.same (d := .bl b) a2 R1 (.bl b)⟩
  · exact a2.elim
end
end Lad
end
/-! ## LadB2 -/
section
set_option maxRecDepth 100000
set_option maxHeartbeats 2000000
namespace Lad
open PySem L2
/-! ### xs[i] = v, d[k] = v -/
def setIx (h : Hea) (o i v : Val) : Option Hea := match o, i with
  | .ref p, .int k => match h[p]? with
    | some (.lst xs) => match ixN xs.length k with
      | some j => some (h.set p (.lst (xs.set j v)))
      | none => none
    | _ => none
  | _, _ => none
def sSetIx (fv fo fi : En → Hea → Res Val) : En → Hea → SRes := fun e h => ofR ((fv e h).bind fun v h1 => (fo e h1).bind fun o h2 => (fi e h2).bind fun i h3 => match setIx h3 o i v with
    | some h4 => .ok Val.non h4
    | none => .stuck) e fun _ h4 => .nx e h4
section
variable {T : Tb} {X : Cx} {W : WX} {a o i : Expr} {fv fo fi : En → Hea → Res Val} {pos pos' : Pos}
theorem st_setIx (hv : SE T X W a fv) (ho : SE T X W o fo) (hi : SE T X W i fi)
    (ha : ∀ v, assign (.Subscript o i pos') X.env v = (do
      let ov ← holding [v] (eval o X.env)
      let iv ← holding [v, ov] (eval i X.env)
      standAt pos'
      holding [v, ov, iv] (setItem ov iv v)
      release [v, ov, iv] []) := by intro _; rfl)
    (hs : swapsWithSole [.Subscript o i pos'] a pos.line X.env = pure false := by rfl) (hw : swappedStores [.Subscript o i pos'] a X.env = pure none := by rfl)
    (h1 : (assignEach [.Subscript o i pos'] X.env).map (·.2) = [assign (.Subscript o i pos') X.env] := by rfl) : SSt T X W (.Assign [.Subscript o i pos'] a pos) (sSetIx fv fo fi) :=
  (ps_asg hv (pg_sub ho hi set_list ha) hs hw h1).imp fun D σ H q => by
    obtain ⟨ρ, e, h, R, E, a⟩ := q
    unfold sSetIx at a
    have a := (AftS.ofR a E).bind
    refine ⟨ρ, e, h, R, E, a.mono fun v H1 ⟨ρ1, d, h1, s, R1, r1, a1⟩ => ⟨ρ1, e, h1, R1, E.go s, a1.bind.mono fun ov H2 ⟨ρ2, od, h2, s2, R2, r2, a2⟩ => ⟨ρ2, e, h2, R2, (E.go s).go s2, a2.bind.mono fun iv H3 ⟨ρ3, id, h3, s3, R3, r3, a3⟩ => ?_⟩⟩⟩
    unfold setIx at a3
    split at a3
    · rename_i h4 hset
      split at hset
      · split at hset
        · rename_i xs hxs
          split at hset
          · rename_i j hj
            cases hset
            obtain ⟨p, rfl, ep⟩ := (r2.go s3).ref_
            obtain rfl := r3.int_
            have ob := R3.ob _ _ _ hxs ep
            cases ob with
            | @lst _ vs _ hl hr =>
              refine ⟨p, _, _, j, rfl, rfl, hl, by rw [← hr.length]; exact hj, ?_⟩
              have rv := (r1.go s2).go s3
              have kp : Mv (sy T X) ρ3 H3 ρ3 (upd H3 p (.lst (List.set vs j v))) := .put ep hl True.intro
              have R4 := R3.put (o := .lst (List.set vs j v)) (ob := .lst (List.set xs j d)) ep hl True.intro (.lst upd_same ((hr.set rv j).mono kp))
              have g4 : Go (sy T X) ρ3 H3 ρ3 (upd H3 p (.lst (List.set vs j v))) := .put ep hl True.intro
              obtain ⟨ρ5, d5, h5, s5, R5, r5, E5, a5⟩ := a3 ρ3 .non _ g4 R4 .non
              exact a5 ρ5 σ _ .rfl R5 E5
          · cases hset
        · cases hset
      · cases hset
    · exact a3.elim
end
/-! ### repr of a bool -/
def gReprB : Hea → List Val → Option Val
  | _, [.bl b] => some (.str (if b = true then "True" else "False"))
  | _, [.int i] => if i.natAbs.log2 < 1920 then some (.str (toString i)) else none
  | _, [.non] => some (.str "None")
  | _, [.str x] => if (PySem.reprText x).length ≤ 16777216 then some (.str (PySem.reprText x)) else none
  | _, _ => none
section
variable {T : Tb} {X : Cx}
theorem call_repr_non : CallR X (.builtin "repr") (fun xs H Q => xs = [.non] ∧ Q (.str "None") H) := by
  intro pins s σ H xs us Q I r h
  obtain ⟨rfl, q⟩ := h
  match us, r with
  | [_], .cons rb .nil =>
    cases rb
    exact PySem.P.repr_of_none ⟨.str _, H, I.tok _, ⟨_, rfl⟩, q⟩
theorem call_repr_str : CallR X (.builtin "repr") (fun xs H Q => ∃ x, xs = [.str x] ∧ (PySem.reprText x).length ≤ sizeLine ∧ Q (.str (PySem.reprText x)) H) := by
  intro pins s σ H xs us Q I r h
  obtain ⟨x, rfl, hz, q⟩ := h
  match us, r with
  | [_], .cons rb .nil =>
    obtain ⟨t, rfl⟩ := rb
    exact PySem.P.repr_of_str ⟨.str _, H, I.tok _, ⟨_, rfl⟩, q⟩ hz
theorem call_repr_bl : CallR X (.builtin "repr") (fun xs H Q => ∃ b, xs = [.bl b] ∧ Q (.str (if b = true then "True" else "False")) H) := by
  intro pins s σ H xs us Q I r h
  obtain ⟨b, rfl, q⟩ := h
  match us, r with
  | [_], .cons rb .nil =>
    cases rb
    exact PySem.P.repr_of_bool ⟨.str _, H, I.tok _, ⟨_, rfl⟩, q⟩
theorem g_reprB : CallR X (.builtin "repr") (rC (sy T X) gReprB) := CallR.imp (CallR.or call_repr_bl (CallR.or SkE.call_repr_int (CallR.or call_repr_non call_repr_str))) fun vs H Q h => by
  obtain ⟨ρ, h, ds, R, r, a⟩ := h
  unfold gReprB at a
  split at a
  · obtain rfl := Reps.bls (ns := [_]) r
    exact .inl ⟨_, rfl, Aft.same (d := .str _) a R (.str _)⟩
  · split at a
    · rename_i hl
      obtain rfl := Reps.ints (ns := [_]) r
      exact .inr (.inl ⟨_, rfl, hl, Aft.same (d := .str _) a R (.str _)⟩)
    · exact a.elim
  · match vs, r with
    | [_], .cons q .nil =>
      cases q
      exact .inr (.inr (.inl ⟨rfl, Aft.same (d := .str _) a R (.str _)⟩))
  · split at a
    · rename_i hl
      match vs, r with
      | [_], .cons q .nil =>
        cases q
        exact .inr (.inr (.inr ⟨_, rfl, by rw [sizeLine_eq]; exact hl, Aft.same (d := .str _) a R (.str _)⟩))
    · exact a.elim
  · exact a.elim
end
/-! ### a source that is a list or a tuple -/
def iSeq (f : En → Hea → Res Val) : En → Hea → Res Src := fun e h => (f e h).bind fun d h1 => match d with
  | .ref i => if (lstAt h1 i).isSome = true then .ok (srcLive i) h1 else .stuck
  | .tup xs => .ok (srcFix xs) h1
  | .lst xs => .ok (srcFix xs) h1
  | _ => .stuck
theorem pi_or {X : Cx} {tg e : Expr} {t u : TI} (h1 : PI X tg e t) (h2 : PI X tg e u) : PI X tg e (fun σ H R => t σ H R ∨ u σ H R) := ⟨fun pins s σ H R I q => by
  rcases q with q | q
  · exact h1.run pins s σ H R I q
  · exact h2.run pins s σ H R I q⟩
section
variable {T : Tb} {X : Cx} {W : WX} {tg a : Expr} {f : En → Hea → Res Val}
theorem si_seq (ha : SE T X W a f) : SI T X W tg a (iSeq f) := (pi_or (si_val (tg := tg) ha) (si_tup (tg := tg) ha)).imp fun σ H Q q => by
  obtain ⟨ρ, e, h, R, E, a⟩ := q
  by_cases hc : ∃ xs h1, f e h = .ok (.tup xs) h1
  · obtain ⟨xs, h1, hf⟩ := hc
    refine .inr ⟨ρ, e, h, R, E, ?_⟩
    unfold iSeq at a
    unfold iTupV
    rw [hf] at a ⊢
    exact a
  · refine .inl ⟨ρ, e, h, R, E, ?_⟩
    unfold iSeq at a
    unfold iVal
    cases hf : f e h with
    | ok d h1 =>
      rw [hf] at a
      cases d with
      | tup xs => exact absurd ⟨xs, h1, hf⟩ hc
      | _ => exact a
    | exc c d h1 => rw [hf] at a; exact a
    | stuck => rw [hf] at a; exact a
end
/-! ### slices of lists -/
section
variable {T : Tb} {X : Cx} {W : WX} {a : Expr} {f : En → Hea → Res Val} {p2 pos : Pos}
def eOpt (f : Option (En → Hea → Res Val)) (e : En) (h : Hea) : Res (Option Int) := match f with
  | none => .ok none h
  | some g => (g e h).bind fun i h3 => match i with | .int i => .ok (some i) h3 | _ => .stuck
def cutL (xs : List Val) (lo hi : Option Int) : List Val := (xs.drop (HT.sIx xs.length 0 lo)).take (HT.sIx xs.length xs.length hi - HT.sIx xs.length 0 lo)
/-- xs[lo:hi], xs a list -/
def lCut (f : En → Hea → Res Val) (lo hi : Option (En → Hea → Res Val)) : En → Hea → Res (List Val) := fun e h => (f e h).bind fun d h1 => (eOpt lo e h1).bind fun l h2 => (eOpt hi e h2).bind fun u h3 => match lstOf h3 d with
  | some xs => .ok (cutL xs l u) h3
  | none => .stuck
/-- t[lo:hi], t a tuple (not the whole of it) -/
def eCut (f : En → Hea → Res Val) (lo hi : Option (En → Hea → Res Val)) : En → Hea → Res Val := fun e h => (f e h).bind fun d h1 => (eOpt lo e h1).bind fun l h2 => (eOpt hi e h2).bind fun u h3 => match d with
  | .tup xs => if HT.sIx xs.length 0 l = 0 ∧ HT.sIx xs.length xs.length u = xs.length then .stuck else .ok (.tup (cutL xs l u)) h3
  | _ => .stuck
abbrev SO (T : Tb) (X : Cx) (W : WX) (e : Option Expr) (f : Option (En → Hea → Res Val)) : Prop := match e, f with
  | none, none => True
  | some e, some f => SE T X W e f
  | _, _ => False
def tO (S : Sy) (W : WX) (f : Option (En → Hea → Res Val)) : TO := fun σ H Q => ∃ ρ e h, Rel S ρ h H ∧ ER S ρ H e σ ∧ (match eOpt f e h with
  | .ok l h' => ∀ ρ' H', Go S ρ H ρ' H' → Rel S ρ' h' H' → Q l H'
  | .exc c d h' => ∀ ρ' v H' dx, Go S ρ H ρ' H' → Rel S ρ' h' H' → Rep S ρ' H' d v → H' dx = some (.xd [(S.fld c, v)]) → W (.ref (S.ca c)) (some dx) σ H'
  | .stuck => False)
theorem so_none : PO X none (tO (sy T X) W none) := ⟨fun pins s σ H Q I q => po_none.run pins s σ H Q I (by
  obtain ⟨ρ, e, h, R, E, a⟩ := q
  exact a ρ H .rfl R)⟩
theorem so_some {e : Expr} (he : SE T X W e f) : PO X (some e) (tO (sy T X) W (some f)) := ⟨fun pins s σ H Q I q => (po_some he).run pins s σ H Q I (by
  obtain ⟨ρ, e, h, R, E, a⟩ := q
  refine ⟨ρ, e, h, R, E, ?_⟩
  unfold eOpt at a
  revert a
  dsimp only
  cases f e h with
  | ok d h1 =>
    intro a ρ1 v H1 s R1 r1
    cases d with
    | int i =>
      obtain rfl := r1.int_
      exact ⟨i, rfl, a ρ1 H1 s R1⟩
    | _ => exact a.elim
  | exc c d h1 => exact fun a => a
  | stuck => exact fun a => a)⟩
end
end Lad
end
/-! ## LadSl -/
section
set_option maxRecDepth 100000
set_option maxHeartbeats 2000000
namespace Lad
open PySem L2
theorem Reps.slc {S : Sy} {ρ : Own} {H : Hp} {xs : List Val} {vs : List V} (r : Reps S ρ H xs vs) (lo hi : Option Int) : Reps S ρ H (cutL xs lo hi) (cutV vs lo hi) := by
  unfold cutL cutV
  rw [r.length]
  exact (r.drop _).take _
section
variable {S : Sy} {ρ : Own} {H : Hp} {f : Option (En → Hea → Res Val)} {e : En} {h : Hea} {W : XK}
def AftO (S : Sy) (ρ : Own) (H : Hp) (r : Res (Option Int)) (Q : Option Int → Hp → Prop) (W : XK) : Prop := match r with
  | .ok l h' => ∀ ρ' H', Go S ρ H ρ' H' → Rel S ρ' h' H' → Q l H'
  | .exc c d h' => ∀ ρ' v H' dx, Go S ρ H ρ' H' → Rel S ρ' h' H' → Rep S ρ' H' d v → H' dx = some (.xd [(S.fld c, v)]) → W (.ref (S.ca c)) (some dx) H'
  | .stuck => False
theorem AftO.bind {r : Res (Option Int)} {k : Option Int → Hea → Res Val} {Q : VK} (a : Aft S ρ H (r.bind k) Q W) : AftO S ρ H r (fun l H1 => ∃ ρ1 h1, Go S ρ H ρ1 H1 ∧ Rel S ρ1 h1 H1 ∧ Aft S ρ1 H1 (k l h1) Q W) W := by
  cases r with
  | ok l h => exact fun ρ1 H1 s R => ⟨ρ1, h, s, R, Aft.later (r := k l h) a s⟩
  | exc c d h => exact a
  | stuck => exact a
theorem AftO.bindL {r : Res (Option Int)} {k : Option Int → Hea → Res (List Val)} {Q : VK} (a : AftL S ρ H (r.bind k) Q W) : AftO S ρ H r (fun l H1 => ∃ ρ1 h1, Go S ρ H ρ1 H1 ∧ Rel S ρ1 h1 H1 ∧ AftL S ρ1 H1 (k l h1) Q W) W := by
  cases r with
  | ok l h => exact fun ρ1 H1 s R => ⟨ρ1, h, s, R, AftL.later (r := k l h) a s⟩
  | exc c d h => exact a
  | stuck => exact a
theorem AftO.mono {r : Res (Option Int)} {Q Q' : Option Int → Hp → Prop} (a : AftO S ρ H r Q W) (h : ∀ v H', Q v H' → Q' v H') : AftO S ρ H r Q' W := by
  cases r with
  | ok l h1 => exact fun ρ1 H1 s R => h _ _ (a ρ1 H1 s R)
  | exc c d h => exact a
  | stuck => exact a
end
section
variable {T : Tb} {X : Cx} {W : WX} {a : Expr} {lo hi : Option Expr} {f : En → Hea → Res Val} {l u : Option (En → Hea → Res Val)} {p2 pos : Pos}
/-- xs[lo:hi] of a list, to be used at once -/
theorem sl_cut (ha : SE T X W a f) (hl : PO X lo (tO (sy T X) W l)) (hu : PO X hi (tO (sy T X) W u)) : SL T X W (.Subscript a (.Slice lo hi none p2) pos) (lCut f l u) :=
  (pe_slice L2.sl_list ha hl hu).imp fun σ H Q q => by
    obtain ⟨ρ, e, h, R, E, a⟩ := q
    unfold lCut at a
    refine ⟨ρ, e, h, R, E, (AftL.bind1 a).mono fun v H1 ⟨ρ1, d, h1, s, R1, r1, a1⟩ => ⟨ρ1, e, h1, R1, E.go s, (AftO.bindL a1).mono fun lv H2 ⟨ρ2, h2, s2, R2, a2⟩ => ⟨ρ2, e, h2, R2, (E.go s).go s2, (AftO.bindL a2).mono fun uv H3 ⟨ρ3, h3, s3, R3, a3⟩ => ?_⟩⟩⟩
    split at a3
    · rename_i xs hx
      obtain ⟨p, vs, ev, sq, rr⟩ := R3.lstV ((r1.go s2).go s3) hx
      exact ⟨p, vs, ev, sq, fun l n => a3.made R3 (rr.slc lv uv) l n⟩
    · exact a3.elim
/-- t[lo:hi] of a tuple -/
def eCutT (f : En → Hea → Res Val) (lo hi : Option (En → Hea → Res Val)) : En → Hea → Res Val := fun e h => (f e h).bind fun d h1 => (eOpt lo e h1).bind fun l h2 => (eOpt hi e h2).bind fun u h3 => match d with
  | .tup xs => .ok (.tup (cutL xs l u)) h3
  | _ => .stuck
theorem cutL_whole {xs : List Val} {l u : Option Int} (h : HT.sIx xs.length 0 l = 0 ∧ HT.sIx xs.length xs.length u = xs.length) : cutL xs l u = xs := by
  unfold cutL
  rw [h.1, h.2]
  simp
theorem se_cut (ha : SE T X W a f) (hl : PO X lo (tO (sy T X) W l)) (hu : PO X hi (tO (sy T X) W u)) : SE T X W (.Subscript a (.Slice lo hi none p2) pos) (eCutT f l u) :=
  (pe_slice L2.sl_tupA ha hl hu).imp fun σ H Q q => by
    obtain ⟨ρ, e, h, R, E, a⟩ := q
    unfold eCutT at a
    refine ⟨ρ, e, h, R, E, a.bind.mono fun v H1 ⟨ρ1, d, h1, s, R1, r1, a1⟩ => ⟨ρ1, e, h1, R1, E.go s, (AftO.bind a1).mono fun lv H2 ⟨ρ2, h2, s2, R2, a2⟩ => ⟨ρ2, e, h2, R2, (E.go s).go s2, (AftO.bind a2).mono fun uv H3 ⟨ρ3, h3, s3, R3, a3⟩ => ?_⟩⟩⟩
    have r3 := (r1.go s2).go s3
    split at a3
    · rename_i xs
      cases r3 with
      | tup ht hr =>
        refine ⟨_, _, rfl, ht, fun hw => ?_, fun hw p n => ?_⟩
        · rw [← hr.length] at hw
          rw [cutL_whole hw] at a3
          exact a3.same R3 (.tup ht hr)
        · exact a3.tup R3 (hr.slc lv uv) p n
    · exact a3.elim
end
end Lad
end
/-! ## LadHead -/
section
set_option maxRecDepth 100000
set_option maxHeartbeats 2000000
namespace Lad
open PySem L2
open PySem.W (Frag)
/-! ### the head's facts: checks on what the top has left -/
def fdOf (K : Frag) (f : Addr) : FuncData := match K.lookup f with
  | some ⟨_, _, .func fd, _⟩ => fd
  | _ => PySem.W.fnOf "" "" ⟨[], [], none, [], [], none, []⟩ [] ⟨.function, [], false, false, []⟩ .none .none .none .none none .none .none
/-- an own error class with an __init__ of the known shape -/
structure ErD where
  cls : Str
  st : Stmt
  qual : Str
  fld : Str
def erI (K : Frag) (d : ErD) : Addr := He.ma K (He.ga K d.cls) "__init__"
def erW (K : Frag) (d : ErD) : He.FnW := match K.lookup (erI K d) with
  | some ⟨_, _, .func fd, _⟩ => some (fd.name, fd.qualname, fd.params, fd.body, fd.scope, fd.globals, fd.closure.map (fun p => (p.1, 0)), fd.builtins)
  | _ => none
def ErD.val (d : ErD) : He.FnW := some ("__init__", d.qual, defArgs d.st, .stmts (defBody d.st), defScope d.st, mainGlobals, [("__class__", 0)], builtinsNs)
def erCda (K : Frag) (d : ErD) : Addr := match K.lookup (erI K d) with
  | some ⟨_, _, .func fd, _⟩ => (match fd.code with | .ref a => a | _ => 0)
  | _ => 0
def erCc (K : Frag) (d : ErD) : Addr := match K.lookup (erI K d) with
  | some ⟨_, _, .func fd, _⟩ => (match fd.closure with | [(_, a)] => a | _ => 0)
  | _ => 0
def noneB : Value → Bool
  | .none => true
  | _ => false
def eqO (a b : Option (Option Value)) : Bool := decide (a = b)
def erB (file : Str) (B newId initId : String) (bmB : List Value) (K : Frag) (d : ErD) : Bool :=
  let C := He.ga K d.cls
  (match K.lookup (erI K d) with
    | some ⟨_, _, .func fd, _⟩ => noneB fd.defaults && (match fd.code, fd.closure with
      | .ref cda, [(_, cc)] => PySem.W.codeIn K (.ref cda) d.qual &&
        ((match K.lookup cda with
          | some ⟨_, _, .fields vs, _⟩ => (match (vs[2]? : Option Value) with
            | some (.str z _) => file == z
            | _ => false)
          | _ => false) &&
        (match K.lookup cc with
          | some ⟨_, _, .cell (some (.ref D)), _⟩ => decide (D = C)
          | _ => false))
      | _, _ => false)
    | _ => false) &&
  (PySem.W.excInitIn K C bmB newId && (PySem.W.excOver K C bmB && (eqO (PySem.W.findIn K (.ref C) "__setattr__") (some (some (.builtin "object.__setattr__"))) &&
  (eqO (PySem.W.takerIn K C d.fld) (some none) && (eqO (PySem.W.findIn K (.ref C) "__init__") (some (some (.ref (erI K d)))) && (decide (PySem.W.typeIn K (.ref (erI K d)) = some (.type "function")) &&
  (PySem.W.keepIn K (.ref C) && (decide (PySem.W.subIn K (.ref C) (.type "BaseException") = some true) && (decide (PySem.W.subIn K (.ref C) (.type B) = some true) && (decide (PySem.W.typeIn K (.ref C) = some (.type "type")) &&
  (PySem.W.hasDictIn K C && (decide (PySem.W.mroIn K C (.ref C) = some true) && (eqO (PySem.W.nsIn K mainGlobals "super") (some none) && (eqO (PySem.W.nsIn K cStatics "thirdparty.any") (some none) &&
  eqO (PySem.W.ks_superIn K C C "__init__") (some (some (.builtin initId)))))))))))))))))
theorem eqO_ok {a b : Option (Option Value)} (h : eqO a b = true) : a = b := of_decide_eq_true h
theorem noneB_ok {v : Value} (h : noneB v = true) : v = .none := by
  cases v <;> first | rfl | exact absurd h Bool.false_ne_true
theorem ErD.txt {P : Program} {K : Frag} {d : ErD} {B newId initId : String} {bmB : List Value} (kxs : PySem.W.KxsFacts B initId) (eb : PySem.ExcBaseFacts B newId initId bmB) (sf : PySem.StoreFacts B bmB "object.__setattr__" "object") (ini : InitOk d.st d.fld)
    (hb : ∀ (kV doc pm : Value) (an : Option Addr) (cdv ct : Value) (cc : Addr) (u v : Value), bindArgs (PySem.W.ksFn "__init__" d.qual (defArgs d.st) (defBody d.st) (defScope d.st) .none kV doc pm an cdv ct cc) ⟨[u, v], []⟩ = pure ([("self", u), (d.fld, v)] : List (Str × Value)))
    (top : (P.main.scope.names.lookup ("super" : Str)).isSome = false) (e : erW K d = d.val) (c : erB P.main.file B newId initId bmB K d = true) :
    ExTxt P K d.st (He.ga K d.cls) (erI K d) (erCc K d) (erCda K d) (fdOf K (erI K d)) B newId initId bmB d.fld := by
  unfold erB at c
  simp only [Bool.and_eq_true] at c
  obtain ⟨c0, c1, c2, c3, c4, c5, c6, c7, c8, c9, c10, c11, c12, c13, c14, c15⟩ := c
  unfold erW at e
  cases q : K.lookup (erI K d) with
  | none => rw [q] at c0; exact absurd c0 Bool.false_ne_true
  | some o =>
    obtain ⟨oc, od, dt, osl⟩ := o
    rw [q] at c0 e
    cases dt with
    | func fd =>
      obtain ⟨n1, n2, n3, n4, n5, n6, n7, n8, n9, n10, n11, n12, n13, n14, n15⟩ := fd
      have e2 : (some (n1, n2, n3, n4, n5, n6, n7.map (fun p => (p.1, 0)), n15) : He.FnW) = (some ("__init__", d.qual, defArgs d.st, .stmts (defBody d.st), defScope d.st, mainGlobals, [("__class__", 0)], builtinsNs) : He.FnW) := e
      simp only [Option.some.injEq, Prod.mk.injEq] at e2
      obtain ⟨h1, h2, h3, h4, h5, h6, h7, h8⟩ := e2
      subst h1 h2 h3 h4 h5 h6 h8
      dsimp only at c0
      obtain ⟨k1, k2⟩ := Bool.and_eq_true_iff.mp c0
      obtain rfl := noneB_ok k1
      match n7, h7 with
      | [(nm, cc)], h7 =>
        have e7 : nm = "__class__" := by
          have h8 : ((nm, 0) : Str × Addr) = ((("__class__" : Str), 0) : Str × Addr) := (List.cons.inj h7).1
          exact (Prod.mk.inj h8).1
        subst e7
        cases n13 with
        | ref cda =>
          dsimp only at k2
          obtain ⟨k2, k34⟩ := Bool.and_eq_true_iff.mp k2
          obtain ⟨k3, k4⟩ := Bool.and_eq_true_iff.mp k34
          have efd : fdOf K (erI K d) = PySem.W.ksFn "__init__" d.qual (defArgs d.st) (defBody d.st) (defScope d.st) .none n9 n10 n11 n12 (.ref cda) n14 cc := by unfold fdOf; rw [q]
          have ecd : erCda K d = cda := by unfold erCda; rw [q]
          have ecc : erCc K d = cc := by unfold erCc; rw [q]
          rw [efd, ecd, ecc]
          refine ⟨kxs, eb, sf, ini, c1, c2, eqO_ok c3, eqO_ok c4, eqO_ok c5, of_decide_eq_true c6, c7, of_decide_eq_true c8, of_decide_eq_true c9, of_decide_eq_true c10, c11, of_decide_eq_true c12, eqO_ok c13, eqO_ok c14, eqO_ok c15,
            ⟨_, _, _, _, _, _, _, _, _, _, rfl, q, k2⟩, fun s x v => BindsTo.of_eq (hb _ _ _ _ _ _ _ _ _), ?_, ?_, top⟩
          · split at k3
            · rename_i lk
              split at k3
              · rename_i hv
                exact ⟨_, _, _, _, _, _, lk, hv, k3⟩
              · exact absurd k3 Bool.false_ne_true
            · exact absurd k3 Bool.false_ne_true
          · split at k4
            · rename_i lk
              obtain rfl := of_decide_eq_true k4
              exact ⟨_, _, _, lk⟩
            · exact absurd k4 Bool.false_ne_true
        | _ => exact absurd k2 Bool.false_ne_true
    | _ => exact absurd c0 Bool.false_ne_true
/-- a caught error's class: attributes, isinstance -/
def excB (K : Frag) (C : Addr) : Bool := xfB K C && (eqO (PySem.W.findIn K (.ref C) "__class__") (some (some (.builtin "object.__class__"))) && (eqO (PySem.W.specialIn K (.builtin "object.__class__") "__get__") (some (some (.builtin "getset_descriptor.__get__"))) &&
  (decide (PySem.W.takesIn K (.builtin "object.__class__") = some true) && decide (PySem.W.mroIn K C (.type "object") = some true))))
theorem excB_ok {K : Frag} {C : Addr} (h : excB K C = true) : XfC K C ∧ ExcC K C := by
  unfold excB at h
  simp only [Bool.and_eq_true] at h
  obtain ⟨h0, h1, h2, h3, h4⟩ := h
  have x := xfB_ok h0
  exact ⟨x, ⟨x.ga, x.gg, x.exC, x.hdC, eqO_ok h1, eqO_ok h2, of_decide_eq_true h3, of_decide_eq_true h4⟩⟩
/-! ### a def without defaults -/
theorem fun_of {K : Frag} {d : He.DefD} {x qual : Str} {st : Stmt} (hd : d = ⟨d.at_, x, qual, defArgs st, defBody st, defScope st, [], []⟩) (e : He.fnW K d.at_ = d.val) (c : d.ok K = true) : Fun K x qual st (He.fAd K d.at_) (fdOf K (He.fAd K d.at_)) := by
  obtain ⟨fd, F⟩ := He.DefD.funD e c
  obtain ⟨oc, od, dV, kV, doc, pm, an, cdv, ct, osl, rfl, lk, hcd, hdf, _⟩ := F.ex
  have dn : dV = .none := by
    rcases hdf with ⟨_, h⟩ | ⟨h, _⟩
    · exact h
    · rw [hd] at h
      exact absurd rfl h
  subst dn
  have ef : fdOf K (He.fAd K d.at_) = PySem.W.fnOf d.name d.qual d.params d.body d.scope .none kV doc pm an cdv ct := by unfold fdOf; rw [lk]
  rw [ef]
  obtain ⟨at_, _, _, _, _, _, _, _⟩ := d
  cases hd
  exact ⟨⟨oc, od, kV, doc, pm, an, cdv, ct, osl, rfl, lk, hcd⟩, F.kp⟩
/-! ### the Hook -/
abbrev Chk : Type := Frag → Bool
abbrev AlL : Type := Bool × List He.FnW × List He.FnW
def startA : List Addr := [mainGlobals, cStatics]
def asL (g : Addr → Option Obj) : Nat → List Addr
  | 0 => startA
  | n + 1 => He.growD g (asL g n)
def obsL (fa : List Chk) (fn : List He.DefD) (er : List ErD) (K : Frag) : AlL := ((fa.all fun f => f K) && fn.all fun d => d.ok K, fn.map fun d => He.fnW K d.at_, er.map fun d => erW K d)
def valL (fn : List He.DefD) (er : List ErD) : AlL := (true, fn.map He.DefD.val, er.map ErD.val)
def SaysL (fa : List Chk) (fn : List He.DefD) (er : List ErD) (K : Frag) : Prop := obsL fa fn er K = valL fn er
def obsLG (n : Nat) (fa : List Chk) (fn : List He.DefD) (er : List ErD) (g : Addr → Option Obj) : AlL := obsL fa fn er (He.frG g (asL g n))
def hookL (n : Nat) (fa : List Chk) (fn : List He.DefD) (er : List ErD) : PySem.W.Hook where
  α := AlL
  obs := fun s => obsLG n fa fn er s.heap.get?
  val := fun _ => valL fn er
  says := fun _ h => ∃ K : Frag, K.In h ∧ SaysL fa fn er K
  of := fun _ _ e => ⟨_, He.frG_in, e⟩
  keeps := fun _ _ _ ⟨K, hK, c⟩ k => ⟨K, PySem.W.Frag.In.keeps hK k, c⟩
theorem obsLG_eq {n : Nat} {fa : List Chk} {fn : List He.DefD} {er : List ErD} {g : Addr → Option Obj} {s : Shared} (h : ∀ a, g a = s.heap.get? a) : obsLG n fa fn er g = (hookL n fa fn er).obs s := by
  have e : g = s.heap.get? := funext h
  rw [e] <;> rfl
section
variable {fa : List Chk} {fn : List He.DefD} {er : List ErD} {K : Frag}
theorem SaysL.fact (c : SaysL fa fn er K) (i : Nat) {f : Chk} (h : fa[i]? = some f := by rfl) : f K = true := by
  have c1 := (Bool.and_eq_true_iff.mp (show ((fa.all fun f => f K) && fn.all fun d => d.ok K) = true from congrArg (fun z : AlL => z.1) c)).1
  exact List.all_eq_true.mp c1 f (List.mem_of_getElem? h)
theorem SaysL.fn_ (c : SaysL fa fn er K) (i : Nat) {d : He.DefD} (h : fn[i]? = some d) : He.fnW K d.at_ = d.val ∧ d.ok K = true := by
  have c2 := (Bool.and_eq_true_iff.mp (show ((fa.all fun f => f K) && fn.all fun d => d.ok K) = true from congrArg (fun z : AlL => z.1) c)).2
  have e : fn.map (fun d => He.fnW K d.at_) = fn.map He.DefD.val := congrArg (fun z : AlL => z.2.1) c
  have e2 : (fn.map fun d => He.fnW K d.at_)[i]? = (fn.map He.DefD.val)[i]? := by rw [e]
  rw [List.getElem?_map, List.getElem?_map, h] at e2
  exact ⟨Option.some.inj e2, List.all_eq_true.mp c2 d (List.mem_of_getElem? h)⟩
theorem SaysL.er_ (c : SaysL fa fn er K) (i : Nat) {d : ErD} (h : er[i]? = some d) : erW K d = d.val := by
  have e : er.map (fun d => erW K d) = er.map ErD.val := congrArg (fun z : AlL => z.2.2) c
  have e2 : (er.map fun d => erW K d)[i]? = (er.map ErD.val)[i]? := by rw [e]
  rw [List.getElem?_map, List.getElem?_map, h] at e2
  exact Option.some.inj e2
end
end Lad
end
/-! ## LadEnd -/
section
set_option maxRecDepth 100000
set_option maxHeartbeats 2000000
namespace Lad
open PySem L2
open PySem.W (Frag)
/-! ### the end: from the plain law to the row -/
def noList (K : Frag) : Bool := K.all fun p => decide (p.2.cls ≠ .type "list")
theorem noList_ok {K : Frag} (h : noList K = true) {a : Addr} {o : Obj} (e : K.lookup a = some o) : o.cls ≠ .type "list" := by
  have m : (a, o) ∈ K := by
    clear h
    induction K with
    | nil => cases e
    | cons p r ih =>
      obtain ⟨b, ob⟩ := p
      rw [List.lookup_cons] at e
      by_cases q : a = b
      · subst q
        simp at e
        subst e
        exact List.mem_cons_self
      · have q2 : (a == b) = false := by simpa using q
        rw [q2] at e
        exact List.mem_cons_of_mem _ (ih e)
  exact of_decide_eq_true (List.all_eq_true.mp h _ m)
/-- the law's promise out of the plain law -/
theorem sp_law {S : Sy} {cf : List Val → Hea → Res Val} {n : Nat} (nl : noList S.K = true) (p : ∀ ns : List Int, ns.length ≤ n → ∃ h, cf [.ref 0] [.fro ns] = .ok (.bl true) h) {H : Hp} {a : Addr} {ns : List Int} (hl : ns.length ≤ n)
    (hO : Only H) (hS : SqL S.K H a (ns.map V.int)) : spEv S cf [.ref a] H (fun v _ => v = .bl true) fun _ _ _ => False := by
  have hz : ∃ o, H a = some (.frz o (.lst (ns.map V.int))) := by
    rcases hS with hR | ⟨o, its, m, lk, hc, _⟩
    · rcases hR with hR | ⟨o, hR⟩
      · rcases hO a with z | ⟨o, xs, z⟩
        · rw [z] at hR; cases hR
        · rw [z] at hR; cases hR
      · exact ⟨o, hR⟩
    · exact absurd hc (noList_ok nl lk)
  obtain ⟨o, hz⟩ := hz
  refine ⟨⟨[a], []⟩, [.fro ns], [.ref 0], ⟨rfl, ?_, ?_, fun _ m => nomatch m⟩, .cons (.ref rfl) .nil, ?_⟩
  · intro i j b e1 e2
    match i, j with
    | 0, 0 => rfl
    | i + 1, _ => simp at e1
    | _, j + 1 => simp at e2
  · intro i ob b e1 e2
    match i with
    | 0 =>
      simp at e1 e2
      subst e1 e2
      exact .fro hz
    | i + 1 => simp at e1
  · obtain ⟨h, e⟩ := p ns hl
    rw [e]
    intro ρ1 v H1 s R1 r
    exact r.bl_
/-- a row's end: what walk_ofE does, for a def that may raise inside -/
theorem walk_W {l : PySem.W.OpenLaw} {n k : Nat} {q : Program} {loose : List Str} {XP : (Str → Option Value) → Heap → Prop} {YP : World → Heap → Prop} {d : DefRec} {x : Str}
    (hn : l.most = some n) (hn2 : n ≤ sizeLine) (hdf : d.params.defaults = []) (hr : Room k callerA)
    (F : ∀ (w : World) (mg : Str → Option Value) (f : Addr) (h : Heap), YP w h → h.Ns mainGlobals mg → mg d.name = some (.ref f) →
      ∃ (K : Frag) (fd : FuncData) (sp : Sp), K.In h ∧ (∀ (s : Shared) (u : Value), BindsTo s fd ⟨[u], []⟩ [(x, u)]) ∧
        (∀ (H : Hp) (a : Addr) (ns : List Int), ns.length ≤ n → Only H → SqL K H a (ns.map V.int) → sp [.ref a] H (fun v _ => v = .bl true) fun _ _ _ => False) ∧
        ∀ base : Heap, K.In base → base.Ns mainGlobals mg → FnOk l.prog w K mg base (L2.CX l.prog w) k f fd [x] sp) :
    PySem.W.WalkO q loose XP YP l.row.toRowW d [] (fun f vs => PySem.call f vs) := by
  refine Att.attach_call hn hdf ?_
  intro w sA sB mg mb f o pm cd doc a vs ns G Y ho hd hcd hmg hobj hints hlen hgn
  have z := F w mg f _ Y G.T.g hmg
  obtain ⟨K, fd, sp, hK, bind, told, keeps⟩ := z
  refine law_call hK G.T.g G.T.b G.T.builtins G.T.nolimit hgn hobj hints (Nat.le_trans hlen hn2) hr keeps bind ?_ ?_
  · exact fun H only sq => told H a ns hlen only sq
  · intro H e s' h
    obtain ⟨_, _, _, _, _, _, _, _, _, _, _, _, z⟩ := h
    exact z.elim
end Lad
end
/-! ## LadMod -/
section
set_option maxRecDepth 100000
set_option maxHeartbeats 2000000
namespace Lad
open PySem L2
open PySem.W (Frag)
/-! ### constants of the module -/
def all2 {α β : Type} (f : α → β → Bool) : List α → List β → Bool
  | [], [] => true
  | a :: as, b :: bs => f a b && all2 f as bs
  | _, _ => false
def cstB : Nat → Frag → Val → Value → Bool
  | _, _, .non, .none => true
  | _, _, .bl b, .bool c => b == c
  | _, _, .int i, .int j _ => decide (i = j)
  | _, _, .str x, .str y _ => decide (x = y)
  | n + 1, K, .tup ds, .ref a => (match K.lookup a with
    | some ⟨.type c, _, .seq its _, _⟩ => decide (c = "tuple") && (decide (its.size ≤ sizeLine) && all2 (cstB n K) ds its.toList)
    | _ => false)
  | _, _, _, _ => false
def CstV (K : Frag) (d : Val) (u : Value) : Prop := ∃ v, RelV v u ∧ ∀ (S : Sy) (ρ : Own) (H : Hp), S.K = K → Rep S ρ H d v
theorem all2_cst {n : Nat} {K : Frag} (ih : ∀ (d : Val) (u : Value), cstB n K d u = true → CstV K d u) : ∀ (ds : List Val) (us : List Value), all2 (cstB n K) ds us = true → ∃ vs, Vals vs us ∧ ∀ (S : Sy) (ρ : Own) (H : Hp), S.K = K → Reps S ρ H ds vs
  | [], [], _ => ⟨[], .nil, fun _ _ _ _ => .nil⟩
  | [], _ :: _, h => by cases h
  | _ :: _, [], h => by cases h
  | d :: ds, u :: us, h => by
    obtain ⟨h1, h2⟩ := Bool.and_eq_true_iff.mp (show (cstB n K d u && all2 (cstB n K) ds us) = true from h)
    obtain ⟨v, r, q⟩ := ih d u h1
    obtain ⟨vs, rs, qs⟩ := all2_cst ih ds us h2
    exact ⟨v :: vs, .cons r rs, fun S ρ H e => .cons (q S ρ H e) (qs S ρ H e)⟩
theorem cstB_ok : ∀ (n : Nat) (K : Frag) (d : Val) (u : Value), cstB n K d u = true → CstV K d u := by
  intro n
  induction n with
  | zero =>
    intro K d u h
    unfold cstB at h
    split at h
    · exact ⟨.non, rfl, fun _ _ _ _ => .non⟩
    · obtain rfl := eq_of_beq h
      exact ⟨.bl _, rfl, fun _ _ _ _ => .bl _⟩
    · obtain rfl := of_decide_eq_true h
      exact ⟨.int _, ⟨_, rfl⟩, fun _ _ _ _ => .int _⟩
    · obtain rfl := of_decide_eq_true h
      exact ⟨.str _, ⟨_, rfl⟩, fun _ _ _ _ => .str _⟩
    · rename_i e; first | (exact absurd ‹0 = Nat.succ _› (by simp)) | (exact nomatch ‹0 = Nat.succ _›)
    · cases h
  | succ n ih =>
    intro K d u h
    unfold cstB at h
    split at h
    · exact ⟨.non, rfl, fun _ _ _ _ => .non⟩
    · obtain rfl := eq_of_beq h
      exact ⟨.bl _, rfl, fun _ _ _ _ => .bl _⟩
    · obtain rfl := of_decide_eq_true h
      exact ⟨.int _, ⟨_, rfl⟩, fun _ _ _ _ => .int _⟩
    · obtain rfl := of_decide_eq_true h
      exact ⟨.str _, ⟨_, rfl⟩, fun _ _ _ _ => .str _⟩
    · rename_i m ds a e
      cases e
      split at h
      · rename_i c od its k osl lk
        simp only [Bool.and_eq_true] at h
        obtain ⟨h1, h2, h3⟩ := h
        have h1 := of_decide_eq_true h1
        have h2 := of_decide_eq_true h2
        subst h1
        obtain ⟨vs, rv, q⟩ := all2_cst (ih _) ds its.toList h3
        exact ⟨.ref a, rfl, fun S ρ H e => .tup (.inr ⟨_, its, k, by rw [e]; exact lk, rfl, rfl, h2, rv⟩) (q S ρ H e)⟩
      · cases h
    · cases h
/-- the module's name x stands for d -/
def conB (x : Str) (d : Val) (K : Frag) : Bool := match PySem.W.nsIn K mainGlobals x with
  | some (some u) => cstB 8 K d u
  | _ => false
def ConOk (K : Frag) (mg : Str → Option Value) (x : Str) (d : Val) : Prop := ∃ u, mg x = some u ∧ CstV K d u
theorem conB_ok {K : Frag} {h : Heap} {mg : Str → Option Value} {x : Str} {d : Val} (X : K.In h) (G : h.Ns mainGlobals mg) (c : conB x d K = true) : ConOk K mg x d := by
  unfold conB at c
  split at c
  · rename_i u e
    exact ⟨u, PySem.W.mg_of X G e, cstB_ok 8 K d u c⟩
  · cases c
section
variable {T : Tb} {X : Cx} {W : WX} {x : Str} {d : Val} {pos : Pos}
theorem se_con (c : ConOk X.K X.mg x d) (hg : Gl X x := by rfl) (hd : (x == ("__debug__" : Str)) = false := by decide) : SE T X W (.Name x pos) (eC d) := by
  obtain ⟨u, m, v, r, q⟩ := c
  exact se_cst (pe_glob hg m r hd) fun ρ H => q _ ρ H rfl
end
/-! ### enumerate, zip -/
def enumV (xs : List Val) (k : Nat) : Option Val := xs[k]?.map fun x => Val.tup [.int (k : Nat), x]
def srcEnum (i : Nat) : Src := ⟨fun k h => (lstAt h i).map fun xs => enumV xs k, 100000⟩
def enumFrom : Nat → List Val → List Val
  | _, [] => []
  | k, x :: xs => .tup [.int (k : Nat), x] :: enumFrom (k + 1) xs
theorem enumFrom_at : ∀ (xs : List Val) (j k : Nat), (enumFrom j xs)[k]? = xs[k]?.map fun x => Val.tup [.int ((j + k : Nat) : Int), x]
  | [], _, _ => rfl
  | x :: xs, j, 0 => rfl
  | x :: xs, j, k + 1 => by
    show (enumFrom (j + 1) xs)[k]? = xs[k]?.map _
    rw [enumFrom_at xs (j + 1) k]
    congr 1
    funext y
    have : j + 1 + k = j + (k + 1) := by omega
    rw [this]
theorem enumFrom_len : ∀ (xs : List Val) (j : Nat), (enumFrom j xs).length = xs.length
  | [], _ => rfl
  | _ :: xs, j => congrArg (· + 1) (enumFrom_len xs (j + 1))
theorem enumFrom0 (xs : List Val) (k : Nat) : (enumFrom 0 xs)[k]? = enumV xs k := by
  rw [enumFrom_at]
  unfold enumV
  congr 1
  funext y
  rw [Nat.zero_add]
def srcEnumF (xs : List Val) : Src := srcFix (enumFrom 0 xs)
def iEnumV (f : En → Hea → Res Val) : En → Hea → Res Src := fun e h => (f e h).bind fun d h1 => match d with
  | .ref i => if (lstAt h1 i).isSome = true then .ok (srcEnum i) h1 else .stuck
  | .lst xs => .ok (srcEnumF xs) h1
  | _ => .stuck
def iEnumL (f : En → Hea → Res (List Val)) : En → Hea → Res Src := fun e h => (f e h).bind fun xs h1 => .ok (srcEnumF xs) h1
section
variable {S : Sy} {H : Hp} {ρ : Own}
theorem j_en1 {a : Addr} {xs : List Val} {vs : List V} {H' : Hp} {ρ' : Own} {h' : Hea} {k : Nat} (R : Rel S ρ' h' H') (sq : SqL S.K H' a vs) (r : Reps S ρ' H' xs vs) : match some (enumV xs k) with
    | some none => (Ite S.K a).stop k H'
    | some (some d) => (Ite S.K a).go k H' ∧ ∀ x H'', (Ite S.K a).yld k H' x H'' → Go S ρ' H' ρ' H'' ∧ Rel S ρ' h' H'' ∧ Rep S ρ' H'' d x
    | none => True := by
  unfold enumV
  cases e : xs[k]? with
  | none =>
    have hk : xs.length ≤ k := List.getElem?_eq_none_iff.mp e
    exact ⟨vs, sq, by rw [← r.length]; exact hk⟩
  | some d =>
    obtain ⟨v, ev, rv⟩ := r.get e
    refine ⟨⟨vs, v, sq, ev⟩, fun x H'' ⟨t, y, ex, nt, eh, q⟩ => ?_⟩
    have z := q vs sq
    rw [ev] at z
    cases z
    subst ex eh
    exact ⟨.side nt, R.side nt, .tup (.inl (.inl upd_same)) (.cons (.int _) (.cons (rv.mono (.side nt)) .nil))⟩
theorem j_enum {a : Addr} {i : Nat} (ea : ρ.nm[i]? = some a) : JOk S ρ H (Ite S.K a) (srcEnum i).item := fun ρ' H' h' g R k => by
  show match (lstAt h' i).map fun xs => enumV xs k with | some none => _ | some (some d) => _ | none => _
  cases el : lstAt h' i with
  | none => exact True.intro
  | some xs =>
    obtain ⟨vs, sq', r'⟩ := R.lst el (g.sub _ _ ea)
    exact j_en1 R sq' r'
theorem j_enumF {a : Addr} {xs : List Val} {vs : List V} (sq : H a = some (.lst vs)) (n : Fz ρ a) (r : Reps S ρ H xs vs) : JOk S ρ H (Ite S.K a) (srcEnumF xs).item := jfix fun ρ' H' h' g R k _ => by
  have e' := (g.fz _ _ sq n).1
  rw [enumFrom0]
  exact j_en1 R (.inl (.inl e')) (r.mono g)
end
section
variable {T : Tb} {X : Cx} {W : WX} {tg a b c : Expr} {f : En → Hea → Res Val} {g : En → Hea → Res (List Val)} {pos p tpos : Pos} {elts : List Expr} {kk : Nat}
theorem si_enum (hg : Gl X "enumerate") (hm : X.mg "enumerate" = none) (ha : SE T X W a f) (hs : starEach [a] X.env = [(false, eval a X.env)] := by rfl) : SI T X W (.Tuple elts kk tpos) (.Call (.Name "enumerate" p) [a] [] pos) (iEnumV f) :=
  (pi_enum hg hm (pa_cons ha pa_nil hs) hs).imp fun σ H Q q => by
    obtain ⟨ρ, e, h, R, E, a⟩ := q
    refine ⟨ρ, e, h, R, E, (AftI.bind a).mono fun v H1 ⟨ρ1, d, h1, s, R1, r, a1⟩ => ?_⟩
    split at a1
    · obtain ⟨p, rfl, ea⟩ := r.ref_
      split at a1
      · rename_i i hs
        obtain ⟨xs, hx⟩ := Option.isSome_iff_exists.mp hs
        obtain ⟨vs, sq, _⟩ := R1.lst hx ea
        exact ⟨p, vs, rfl, sq, a1 ρ1 H1 _ .rfl R1 (j_enum ea)⟩
      · exact a1.elim
    · cases r with
      | lst f h1 h2 => exact ⟨_, _, rfl, .inl (.inl h1), a1 ρ1 H1 _ .rfl R1 (j_enumF h1 f h2)⟩
    · exact a1.elim
theorem si_enumL (hg : Gl X "enumerate") (hm : X.mg "enumerate" = none) (ha : SL T X W a g) (hs : starEach [a] X.env = [(false, eval a X.env)] := by rfl) : SI T X W (.Tuple elts kk tpos) (.Call (.Name "enumerate" p) [a] [] pos) (iEnumL g) :=
  (pi_enum hg hm (pa_cons ha pa_nil hs) hs).imp fun σ H Q q => by
    obtain ⟨ρ, e, h, R, E, a⟩ := q
    refine ⟨ρ, e, h, R, E, (AftI.bindL a).mono fun v H1 ⟨ρ1, d, h1, p, vs, s, R1, ev, el, n, r, a1⟩ => ?_⟩
    subst ev
    exact ⟨p, vs, rfl, .inl (.inl el), a1 ρ1 H1 _ .rfl R1 (j_enumF el n r)⟩
end
theorem Reps.append {S : Sy} {ρ : Own} {H : Hp} : ∀ {ds es : List Val} {vs us : List V}, Reps S ρ H ds vs → Reps S ρ H es us → Reps S ρ H (ds ++ es) (vs ++ us)
  | _, _, _, _, .nil, q => q
  | _, _, _, _, .cons r t, q => .cons r (Reps.append t q)
/-! ### xs.append(e) -/
def eApp (f g : En → Hea → Res Val) : En → Hea → Res Val := fun e h => (f e h).bind fun o h1 => match o with
  | .ref i => match h1[i]? with
    | some (.lst _) => (g e h1).bind fun y h2 => match h2[i]? with
      | some (.lst xs) => if xs.length < 16777216 then .ok .non (h2.set i (.lst (xs ++ [y]))) else .stuck
      | _ => .stuck
    | _ => .stuck
  | _ => .stuck
section
variable {T : Tb} {X : Cx} {W : WX} {o a : Expr} {f g : En → Hea → Res Val} {apos cpos : Pos}
theorem se_app (ho : SE T X W o f) (ha : SE T X W a g)
    (hbase : attributeBase o "append" X.env (eval o X.env) = eval o X.env := by rfl)
    (hfew : ((backTo cpos (starEach (a :: []) X.env)).all (fun x => !x.1) && (backToKw cpos (keywordEach [] X.env)).all (fun x => x.1.isSome)
      && decide ((a :: []).length + ([] : List Keyword).length + (if ([] : List Keyword).isEmpty then 0 else 1) < 30)) = true := by rfl)
    (hline : (apos.endLine == cpos.line) = true := by rfl) (hs : starEach (a :: []) X.env = (false, eval a X.env) :: starEach [] X.env := by rfl) (hplain : (backTo cpos (starEach [] X.env)).any (·.1) = false := by rfl) :
    SE T X W (.Call (.Attribute o "append" apos) [a] [] cpos) (eApp f g) :=
  (pe_bm PySem.F.plainAttrs_list PySem.F.slot_list_append PySem.F.type_list_append mt_append ho (pa_cons ha pa_nil hs) hbase hfew hline hs hplain).imp fun σ H Q q => by
    obtain ⟨ρ, e, h, R, E, a⟩ := q
    unfold eApp at a
    refine ⟨ρ, e, h, R, E, a.bind.mono fun ov H1 ⟨ρ1, od, h1, s, R1, r1, a1⟩ => ?_⟩
    split at a1
    · rename_i i
      split at a1
      · rename_i xs0 hx0
        obtain ⟨p, rfl, ep⟩ := r1.ref_
        have ob := R1.ob _ _ _ hx0 ep
        cases ob with
        | @lst _ vs0 _ hl0 hr0 =>
          refine ⟨.inl ⟨rfl, vs0, .inl (.inl hl0)⟩, ρ1, e, h1, R1, E.go s, a1.bind.mono fun yv H2 ⟨ρ2, yd, h2, s2, R2, r2, a2⟩ => ?_⟩
          split at a2
          · rename_i xs hx
            split at a2
            · rename_i hlen
              have ep2 := s2.sub _ _ ep
              have ob2 := R2.ob _ _ _ hx ep2
              cases ob2 with
              | @lst _ vs _ hl hr =>
                refine ⟨p, vs, yv, rfl, rfl, hl, by rw [sizeLine_eq, ← hr.length]; exact hlen, ?_⟩
                have kp : Mv (sy T X) ρ2 H2 ρ2 (upd H2 p (.lst (vs ++ [yv]))) := .put ep2 hl True.intro
                have R4 := R2.put (o := .lst (vs ++ [yv])) (ob := .lst (xs ++ [yd])) ep2 hl True.intro (.lst upd_same ((hr.append (.cons r2 .nil)).mono kp))
                exact a2 ρ2 .non _ (.put ep2 hl True.intro) R4 .non
            · exact a2.elim
          · exact a2.elim
      · exact a1.elim
    · exact a1.elim
end
end Lad
end
/-! ## LadOb -/
section
set_option maxRecDepth 100000
set_option maxHeartbeats 2000000
namespace Lad
open PySem L2
open PySem.W (Frag)
/-! ### fields of instances -/
def NmOk (T : Tb) : Prop := ∀ m n : Nat, m < 100 → n < 100 → T.nm m = T.nm n → m = n
def lkF : List (Nat × Val) → Nat → Option Val
  | [], _ => none
  | (m, d) :: r, n => if m = n then some d else if m < 100 then lkF r n else none
def noF : List (Nat × Val) → Nat → Bool
  | [], _ => true
  | (m, _) :: r, n => if m = n then false else if m < 100 then noF r n else false
def putN (n : Nat) (d : Val) : List (Nat × Val) → Option (List (Nat × Val))
  | [] => some [(n, d)]
  | (m, x) :: r => if m = n then some ((m, d) :: r) else if m < 100 then (putN n d r).map ((m, x) :: ·) else none
section
variable {T : Tb} {K : Frag} {ex : Option (Addr × Nat × Addr)} {ρ : Own} {H : Hp}
theorem FsR.look {S : Sy} (nk : ∀ m n : Nat, m < 100 → n < 100 → S.nm m = S.nm n → m = n) {n : Nat} (hn : n < 100) : ∀ {fs : List (Nat × Val)} {vs : List (Str × V)} {d : Val}, FsR S ρ H fs vs → lkF fs n = some d → ∃ v, vs.lookup (S.nm n) = some v ∧ Rep S ρ H d v
  | _, _, d, .nil, e => by cases e
  | _, _, d, .cons (n := m) (d := d') (v := v) (ds := ds) (vs := vs) r t, e => by
    unfold lkF at e
    by_cases hm : m = n
    · subst hm
      rw [if_pos rfl] at e
      cases e
      exact ⟨v, by rw [List.lookup_cons]; simp, r⟩
    · rw [if_neg hm] at e
      by_cases hb : m < 100
      · rw [if_pos hb] at e
        obtain ⟨u, h1, h2⟩ := FsR.look nk hn t e
        refine ⟨u, ?_, h2⟩
        have hne : (S.nm n == S.nm m) = false := by
          cases q : S.nm n == S.nm m with
          | false => rfl
          | true => exact absurd (nk m n hb hn (eq_of_beq q).symm) hm
        rw [List.lookup_cons, hne]
        exact h1
      · rw [if_neg hb] at e
        cases e
theorem FsR.lookNo {S : Sy} (nk : ∀ m n : Nat, m < 100 → n < 100 → S.nm m = S.nm n → m = n) {n : Nat} (hn : n < 100) : ∀ {fs : List (Nat × Val)} {vs : List (Str × V)}, FsR S ρ H fs vs → noF fs n = true → vs.lookup (S.nm n) = none
  | _, _, .nil, e => rfl
  | _, _, .cons (n := m) (d := d') (v := v) (ds := ds) (vs := vs) r t, e => by
    unfold noF at e
    by_cases hm : m = n
    · rw [if_pos hm] at e
      cases e
    · rw [if_neg hm] at e
      by_cases hb : m < 100
      · rw [if_pos hb] at e
        have hne : (S.nm n == S.nm m) = false := by
          cases q : S.nm n == S.nm m with
          | false => rfl
          | true => exact absurd (nk m n hb hn (eq_of_beq q).symm) hm
        rw [List.lookup_cons, hne]
        exact FsR.lookNo nk hn t e
      · rw [if_neg hb] at e
        cases e
theorem FsR.put {S : Sy} (nk : ∀ m n : Nat, m < 100 → n < 100 → S.nm m = S.nm n → m = n) {n : Nat} (hn : n < 100) {d : Val} {v : V} (rv : Rep S ρ H d v) : ∀ {fs gs : List (Nat × Val)} {vs : List (Str × V)}, FsR S ρ H fs vs → putN n d fs = some gs → FsR S ρ H gs (putF (S.nm n) v vs)
  | _, _, _, .nil, e => by
    cases e
    exact .cons rv .nil
  | _, gs, _, .cons (n := m) (d := d') (v := v') (ds := ds) (vs := vs) r t, e => by
    unfold putN at e
    by_cases hm : m = n
    · subst hm
      rw [if_pos rfl] at e
      cases e
      unfold putF
      rw [if_pos rfl]
      exact .cons rv t
    · rw [if_neg hm] at e
      by_cases hb : m < 100
      · rw [if_pos hb] at e
        cases q : putN n d ds with
        | none => rw [q] at e; cases e
        | some g2 =>
          rw [q] at e
          cases e
          have hne : ¬ S.nm m = S.nm n := fun z => hm (nk m n hb hn z)
          unfold putF
          rw [if_neg hne]
          exact .cons r (FsR.put nk hn rv t q)
      · rw [if_neg hb] at e
        cases e
theorem FsR.length {S : Sy} : ∀ {fs : List (Nat × Val)} {vs : List (Str × V)}, FsR S ρ H fs vs → fs.length = vs.length
  | _, _, .nil => rfl
  | _, _, .cons _ t => by simp [FsR.length t]
end
/-- an instance, to be read -/
def insOf (h : Hea) : Val → Option (Nat × List (Nat × Val))
  | .obj c ns vs => some (c, ns.zip vs)
  | .ref i => match h[i]? with
    | some (.ins c fs) => some (c, fs)
    | _ => none
  | _ => none
theorem FsR.zip {S : Sy} {ρ : Own} {H : Hp} : ∀ {ns : List Nat} {ds : List Val} {ps : List (Str × V)}, ps.map (·.1) = ns.map S.nm → Reps S ρ H ds (ps.map (·.2)) → FsR S ρ H (ns.zip ds) ps
  | [], ds, [], _, r => by cases r; exact .nil
  | [], ds, p :: ps, e, _ => by cases e
  | n :: ns, ds, [], e, _ => by cases e
  | n :: ns, _, p :: ps, e, .cons r t => by
    obtain ⟨x, v⟩ := p
    simp only [List.map_cons, List.cons.injEq] at e
    obtain ⟨rfl, e⟩ := e
    exact .cons r (FsR.zip e t)
theorem ins_of {S : Sy} {ρ : Own} {H : Hp} {h : Hea} {d : Val} {v : V} {c : Nat} {fs : List (Nat × Val)} (R : Rel S ρ h H) (r : Rep S ρ H d v) (e : insOf h d = some (c, fs)) : ∃ a dx ps, v = .ref a ∧ H a = some (.ins (S.ca c) dx ps) ∧ FsR S ρ H fs ps := by
  unfold insOf at e
  split at e
  · cases e
    cases r with
    | obj f h1 e1 e2 r => subst e2; exact ⟨_, _, _, rfl, h1, FsR.zip e1 r⟩
  · obtain ⟨p, rfl, ep⟩ := r.ref_
    split at e
    · rename_i hx
      cases e
      have o := R.ob _ _ _ hx ep
      cases o with
      | ins h1 h2 => exact ⟨p, _, _, rfl, h1, h2⟩
    · cases e
  · cases e
/-- e.f -/
def eFld (ok : Nat → Bool) (n : Nat) (f : En → Hea → Res Val) : En → Hea → Res Val := fun e h => (f e h).bind fun o h1 => match insOf h1 o with
  | some (c, fs) => if ok c = true then (match lkF fs n with
    | some d => .ok d h1
    | none => .stuck) else .stuck
  | none => .stuck
/-- e.f = value -/
def sFldV (ok : Nat → Bool) (n : Nat) (fo fv : En → Hea → Res Val) : En → Hea → SRes := fun e h => ofR ((fv e h).bind fun v h1 => (fo e h1).bind fun o h2 => match o with
  | .ref i => match h2[i]? with
    | some (.ins c fs) => if ok c = true ∧ fs.length < 1000 then (match putN n v fs with
      | some gs => .ok Val.non (h2.set i (.ins c gs))
      | none => .stuck) else .stuck
    | _ => .stuck
  | _ => .stuck) e fun _ h3 => .nx e h3
section
variable {T : Tb} {X : Cx} {W : WX} {a o : Expr} {f g : En → Hea → Res Val} {pos pos' : Pos} {ok : Nat → Bool} {n : Nat} {fn : Str}
theorem se_fld (nk : NmOk T) (hn : n < 100) (hf : T.nm n = fn) (hok : ∀ c, ok c = true → Cls X.K (T.ca c) ∧ NoAttr X.K (T.ca c) fn) (ha : SE T X W a f) (hb : attributeBase a fn X.env (eval a X.env) = eval a X.env := by rfl) : SE T X W (.Attribute a fn pos) (eFld ok n f) :=
  (pe_fld ha hb).imp fun σ H Q q => by
    obtain ⟨ρ, e, h, R, E, a⟩ := q
    unfold eFld at a
    refine ⟨ρ, e, h, R, E, a.bind.mono fun ov H1 ⟨ρ1, od, h1, s, R1, r1, a1⟩ => ?_⟩
    split at a1
    · rename_i c fs hx
      obtain ⟨p, dx, vs, rfl, hi, hfs⟩ := ins_of R1 r1 hx
      split at a1
      · rename_i hc
        split at a1
        · rename_i d hd
          obtain ⟨v, e1, e2⟩ := FsR.look (S := sy T X) nk hn hfs hd
          exact ⟨p, _, dx, vs, v, rfl, hi, (hok c hc).1, (hok c hc).2, by rw [← hf]; exact e1, a1.same R1 e2⟩
        · exact a1.elim
      · exact a1.elim
    · exact a1.elim
theorem st_fld (nk : NmOk T) (hn : n < 100) (hf : T.nm n = fn) (hok : ∀ c, ok c = true → Cls X.K (T.ca c) ∧ NoAttr X.K (T.ca c) fn) (ho : SE T X W o f) (hv : SE T X W a g) (hs : swapsWith a (some (.Attribute o fn pos')) pos.line X.env = pure false := by rfl) : SSt T X W (.Assign [.Attribute o fn pos'] a pos) (sFldV ok n f g) :=
  (ps_fld ho hv hs).imp fun D σ H q => by
    obtain ⟨ρ, e, h, R, E, a⟩ := q
    unfold sFldV at a
    have a := (AftS.ofR a E).bind
    refine ⟨ρ, e, h, R, E, a.mono fun yv H1 ⟨ρ1, yd, h1, s1, R1, r1, a1⟩ => ⟨ρ1, e, h1, R1, E.go s1, a1.bind.mono fun ov H2 ⟨ρ2, od, h2, s2, R2, r2, a2⟩ => ?_⟩⟩
    split at a2
    · split at a2
      · rename_i i c fs hx
        obtain ⟨p, rfl, ep⟩ := r2.ref_
        split at a2
        · rename_i hc
          split at a2
          · rename_i gs hg
            have ob := R2.ob _ _ _ hx ep
            cases ob with
            | @ins _ _ vs _ dx hi hfs =>
              have hl := hfs.length
              refine ⟨p, _, dx, vs, rfl, hi, (hok c hc.1).1, (hok c hc.1).2, by omega, ?_⟩
              have kp : Mv (sy T X) ρ2 H2 ρ2 (upd H2 p (.ins (T.ca c) dx (putF (T.nm n) yv vs))) := .put ep hi True.intro
              have R4 := R2.put (o := .ins (T.ca c) dx (putF (T.nm n) yv vs)) (ob := .ins c gs) ep hi True.intro (.ins upd_same ((FsR.put (S := sy T X) nk hn (r1.go s2) hfs hg).mono kp))
              have g4 : Go (sy T X) ρ2 H2 ρ2 (upd H2 p (.ins (T.ca c) dx (putF (T.nm n) yv vs))) := .put ep hi True.intro
              obtain ⟨ρ5, d5, h5, s5, R5, r5, E5, a5⟩ := a2 ρ2 .non _ g4 R4 .non
              rw [← hf]
              exact a5 ρ5 σ _ .rfl R5 E5
          · exact a2.elim
        · exact a2.elim
      · exact a2.elim
    · exact a2.elim
end
end Lad
end
/-! ## LadMk -/
section
set_option maxRecDepth 100000
set_option maxHeartbeats 2000000
namespace Lad
open PySem L2
open PySem.W (Frag)
/-! ### methods, making: what the callee lets out may depend on the frame -/
section
variable {X : Cx} {CX : CXT} {k : Nat} {f C : Addr} {fd : FuncData} {ps : List Str} {sp : Sp} {E : St → XK} {x m : Str} {p pos apos : Pos} {e o : Expr} {es : List Expr} {ta : TE} {t : TA}
def tMtS (C : Addr) (m : Str) (sp : Sp) (E : St → XK) (ta : TE) (t : TA) : TE := fun σ H Q => ta σ H fun x H1 => ∃ a dx fs, x = .ref a ∧ H1 a = some (.ins C dx fs) ∧ fs.lookup m = none ∧ t σ H1 fun vs H2 => sp (x :: vs) H2 Q (E σ)
theorem pe_mtS {pl : Sem Bool} (he : PE X o ta) (c : Cls X.K C) (hm : Meth X.K C m f) (F : FnOk X.prog X.w X.K X.mg X.base CX k f fd ps sp) (hr : Room k X.A) (hb : Binds X.K fd ps []) (hx : ∀ σ, PassesAt CX X σ (E σ)) (ha : PA X (e :: es) t)
    (hst : starEach (e :: es) X.env = (false, eval e X.env) :: starEach es X.env := by rfl) (hpl : (backTo pos (starEach es X.env)).any (·.1) = false := by rfl)
    (ht : eval (.Call (.Attribute o m apos) (e :: es) [] pos) X.env = (do
      let ov ← eval o X.env
      standAt apos.atName
      let (f, first) ← holding [ov] (getMethod ov m pl)
      callWith pos f first (backTo pos (starEach (e :: es) X.env)) (backToKw pos (keywordEach [] X.env))) := by rfl) : PE X (.Call (.Attribute o m apos) (e :: es) [] pos) (tMtS C m sp E ta t) := by
  refine ⟨?_⟩
  intro pins s σ H Q I hw
  have recv := he.run pins s σ H _ I hw
  refine PySem.W.methodCall_KW (pl := pl) (thn recv ?_) ht
  rintro u s1 ⟨x, H1, I1, rx, a, dx, fs, rfl, ea, nof, w1⟩
  have eu : u = Value.ref a := rx
  subst eu
  apply getmeth_ok I1 ea c hm nof
  have given := ha.run pos pins s1 σ H1 _ I1 w1
  refine PySem.W.callWith_K (first := [.ref a]) (h₀ := X.base) I.ok.mod.kin hm.kp (thn given ?_) hst hpl
  rintro us s2 ⟨vs, H2, I2, rs, w2⟩
  exact ⟨I2.kIn, run_fnS (us := .ref a :: us) (vs := .ref a :: vs) F hr hb (hx σ) I2 (.cons rfl rs) w2⟩
theorem pe_mtS0 {pl : Sem Bool} (he : PE X o ta) (c : Cls X.K C) (hm : Meth X.K C m f) (F : FnOk X.prog X.w X.K X.mg X.base CX k f fd ps sp) (hr : Room k X.A) (hb : Binds X.K fd ps []) (hx : ∀ σ, PassesAt CX X σ (E σ))
    (ht : eval (.Call (.Attribute o m apos) [] [] pos) X.env = (do
      let ov ← eval o X.env
      standAt apos.atName
      let (f, first) ← holding [ov] (getMethod ov m pl)
      callWith pos f first (backTo pos (starEach [] X.env)) (backToKw pos (keywordEach [] X.env))) := by rfl) : PE X (.Call (.Attribute o m apos) [] [] pos) (tMtS C m sp E ta tNil) := by
  refine ⟨?_⟩
  intro pins s σ H Q I hw
  have recv := he.run pins s σ H _ I hw
  refine PySem.W.methodCall_KW (pl := pl) (thn recv ?_) ht
  rintro u s1 ⟨x, H1, I1, rx, a, dx, fs, rfl, ea, nof, w1⟩
  have eu : u = Value.ref a := rx
  subst eu
  apply getmeth_ok I1 ea c hm nof
  exact PySem.W.callWith_K0 (first := [.ref a]) I1.kIn hm.kp (run_fnS (us := [.ref a]) (vs := [.ref a]) F hr hb (hx σ) I1 (.cons rfl .nil) w1)
/-- a new instance, its __init__ run -/
theorem run_mkS {pins : List (Addr × Obj)} {σ : St} {H : Hp} {s : Shared} {Q : VK} {us : List Value} {vs : List V} (M : Mk X.K C f) (F : FnOk X.prog X.w X.K X.mg X.base CX k f fd ps sp) (hr : Room (k + 1) X.A) (hb : Binds X.K fd ps []) (hx : PassesAt CX X σ (E σ)) (I : Inv X pins σ H s) (r : Vals vs us)
    (w : ∀ x dx, H x = none → H dx = none → dx ≠ x → sp (.ref x :: vs) (upd (upd H dx (.own x)) x (.ins C dx [])) (fun v H2 => v = .non ∧ Q (.ref x) H2) (E σ)) :
    wpAny (model X.prog X.w) X.A (call (.ref C) us) (EP X pins σ Q) X.xe s := by
  have at0 := I.hok.fresh (Nat.le_refl s.heap.objs.size)
  have at1 := I.hok.fresh (Nat.le_succ s.heap.objs.size)
  have w1 := w (s.heap.objs.size + 1) s.heap.objs.size at1 at0 (Nat.ne_of_lt (Nat.lt_succ_self _))
  have J := Inv.made (C := C) I
  have rs : Vals (V.ref (s.heap.objs.size + 1) :: vs) (Value.ref (s.heap.objs.size + 1) :: us) := .cons rfl r
  have len : (Value.ref (s.heap.objs.size + 1) :: us).length = ps.length := by
    rw [← rs.length]
    exact F.len _ _ _ _ w1
  have bind := hb _ (Value.ref (s.heap.objs.size + 1) :: us) J.kIn (by rw [List.append_nil]; exact len)
  rw [List.append_nil] at bind
  have body := F.run _ X.stack _ _ ⟨Value.ref (s.heap.objs.size + 1) :: us, []⟩ (Value.ref (s.heap.objs.size + 1) :: us) _ _ (E σ) (hr.make C us []) (J.env0.make C us []) bind rs w1
  apply wpAny_call
  refine make_map (f := f) I.kIn M.makes M.init (beq_iff_eq.mp M.fn) (codeAny_mono body ?_)
  intro res s' back
  match res, back with
  | .error er, back => exact hx pins _ _ er s' J back
  | .ok (.ret u), back =>
    obtain ⟨v, H', I3, rv, ev, w3⟩ := J.after back
    subst ev
    exact ⟨rv, V.ref (s.heap.objs.size + 1), H', I3, rfl, w3⟩
  | .ok .next, back => exact False.elim back
  | .ok .brk, back => exact False.elim back
  | .ok .cont, back => exact False.elim back
def tMkS (C : Addr) (sp : Sp) (E : St → XK) (t : TA) : TE := fun σ H Q => t σ H fun vs H1 => ∀ x dx, H1 x = none → H1 dx = none → dx ≠ x → sp (.ref x :: vs) (upd (upd H1 dx (.own x)) x (.ins C dx [])) (fun v H2 => v = .non ∧ Q (.ref x) H2) (E σ)
theorem pe_mkS (M : Mk X.K C f) (F : FnOk X.prog X.w X.K X.mg X.base CX k f fd ps sp) (hr : Room (k + 1) X.A) (hg : Gl X x) (hm : X.mg x = some (.ref C)) (hb : Binds X.K fd ps []) (hx : ∀ σ, PassesAt CX X σ (E σ)) (ha : PA X (e :: es) t)
    (hdb : (x == ("__debug__" : Str)) = false := by decide) (he : starEach (e :: es) X.env = (false, eval e X.env) :: starEach es X.env := by rfl) (hpl : (backTo pos (starEach es X.env)).any (·.1) = false := by rfl) :
    PE X (.Call (.Name x p) (e :: es) [] pos) (tMkS C sp E t) := by
  refine ⟨?_⟩
  intro pins s σ H Q I hw
  apply wpAny_Call_Name_kw
  refine ld_glob I hg hm ?_ hdb
  have given := ha.run pos pins s σ H _ I hw
  refine PySem.W.callWith_K (h₀ := X.base) I.ok.mod.kin M.kp (thn given ?_) he hpl
  rintro us s1 ⟨vs, H1, I1, rs, w1⟩
  exact ⟨I1.kIn, run_mkS M F hr hb (hx σ) I1 rs w1⟩
end
/-! ### evaluators -/
def eMeth (c n : Nat) (cf : List Val → Hea → Res Val) (f : En → Hea → Res Val) (g : En → Hea → Res (List Val)) : En → Hea → Res Val := fun e h => (f e h).bind fun o h1 => match insOf h1 o with
  | some (c', fs) => if c' = c ∧ noF fs n = true then (g e h1).bind fun ds h2 => cf (o :: ds) h2 else .stuck
  | none => .stuck
/-- __init__'s end: None; fn: what becomes of the new thing -/
def mkEnd (fn : Hea → Val → Hea → Res Val) (h0 : Hea) (r : Res Val) : Res Val := match r with
  | .ok .non h => fn h0 (.ref h0.length) h
  | .ok _ _ => .stuck
  | .exc c d h => .exc c d h
  | .stuck => .stuck
def eMakeG (fn : Hea → Val → Hea → Res Val) (c : Nat) (cf : List Val → Hea → Res Val) (g : En → Hea → Res (List Val)) : En → Hea → Res Val := fun e h => (g e h).bind fun ds h1 => mkEnd fn h1 (cf (.ref h1.length :: ds) (h1 ++ [.ins c []]))
abbrev eMake := eMakeG fin
abbrev eMakeK := eMakeG finK
section
variable {T : Tb} {X : Cx} {W : WX} {x m : Str} {f : Addr} {fd : FuncData} {ps : List Str} {k c n : Nat} {cf : List Val → Hea → Res Val} {e o : Expr} {es : List Expr} {fo : En → Hea → Res Val} {g : En → Hea → Res (List Val)} {p apos pos : Pos}
theorem meth_imp (nk : NmOk T) (hn : n < 100) (hm : T.nm n = m) {σ : St} {H : Hp} {Q : VK} (q : tE (sy T X) W (eMeth c n cf fo g) σ H Q) : tMtS (T.ca c) m (spEv (sy T X) cf) (WE W) (tE (sy T X) W fo) (tA (sy T X) W g) σ H Q := by
  obtain ⟨ρ, e, h, R, E, a⟩ := q
  unfold eMeth at a
  refine ⟨ρ, e, h, R, E, a.bind.mono fun ov H1 ⟨ρ1, od, h1, s, R1, r1, a1⟩ => ?_⟩
  split at a1
  · rename_i c' fs hx
    obtain ⟨p, dx, vs, rfl, hi, hfs⟩ := ins_of R1 r1 hx
    split at a1
    · rename_i hc
      obtain ⟨rfl, hno⟩ := hc
      refine ⟨p, dx, vs, rfl, hi, by rw [← hm]; exact FsR.lookNo (S := sy T X) nk hn hfs hno, ρ1, e, h1, R1, E.go s, (AftA.bind a1).mono fun us H2 ⟨ρ2, ds, h2, s2, R2, r2, a2⟩ => ?_⟩
      exact ⟨ρ2, h2, _, R2, .cons (r1.go s2) r2, a2⟩
    · exact a1.elim
  · exact a1.elim
theorem se_meth (nk : NmOk T) (hn : n < 100) (hnm : T.nm n = m) (C : Cls X.K (T.ca c)) (hm : Meth X.K (T.ca c) m f) (F : FnOk X.prog X.w X.K X.mg X.base (L2.CX X.prog X.w) k f fd ps (spEv (sy T X) cf)) (hr : Room k X.A) (hb : Binds X.K fd ps []) (tk : Takes X W)
    (ho : SE T X W o fo) (ha : SA T X W (e :: es) g) {pl : Sem Bool} (hst : starEach (e :: es) X.env = (false, eval e X.env) :: starEach es X.env := by rfl) (hpl : (backTo pos (starEach es X.env)).any (·.1) = false := by rfl)
    (ht : eval (.Call (.Attribute o m apos) (e :: es) [] pos) X.env = (do
      let ov ← eval o X.env
      standAt apos.atName
      let (f, first) ← holding [ov] (getMethod ov m pl)
      callWith pos f first (backTo pos (starEach (e :: es) X.env)) (backToKw pos (keywordEach [] X.env))) := by rfl) : SE T X W (.Call (.Attribute o m apos) (e :: es) [] pos) (eMeth c n cf fo g) :=
  (pe_mtS (E := WE W) ho C hm F hr hb (fun σ => passAt tk σ) ha hst hpl ht).imp fun σ H Q q => meth_imp nk hn hnm q
theorem se_meth0 (nk : NmOk T) (hn : n < 100) (hnm : T.nm n = m) (C : Cls X.K (T.ca c)) (hm : Meth X.K (T.ca c) m f) (F : FnOk X.prog X.w X.K X.mg X.base (L2.CX X.prog X.w) k f fd ps (spEv (sy T X) cf)) (hr : Room k X.A) (hb : Binds X.K fd ps []) (tk : Takes X W)
    (ho : SE T X W o fo) {pl : Sem Bool}
    (ht : eval (.Call (.Attribute o m apos) [] [] pos) X.env = (do
      let ov ← eval o X.env
      standAt apos.atName
      let (f, first) ← holding [ov] (getMethod ov m pl)
      callWith pos f first (backTo pos (starEach [] X.env)) (backToKw pos (keywordEach [] X.env))) := by rfl) : SE T X W (.Call (.Attribute o m apos) [] [] pos) (eMeth c n cf fo aNil) :=
  (pe_mtS0 (E := WE W) ho C hm F hr hb (fun σ => passAt tk σ) ht).imp fun σ H Q q => by
    obtain ⟨ρ, e, h, R, E, a⟩ := q
    unfold eMeth at a
    refine ⟨ρ, e, h, R, E, a.bind.mono fun ov H1 ⟨ρ1, od, h1, s, R1, r1, a1⟩ => ?_⟩
    split at a1
    · rename_i c' fs hx
      obtain ⟨p, dx, vs, rfl, hi, hfs⟩ := ins_of R1 r1 hx
      split at a1
      · rename_i hc
        obtain ⟨rfl, hno⟩ := hc
        exact ⟨p, dx, vs, rfl, hi, by rw [← hnm]; exact FsR.lookNo (S := sy T X) nk hn hfs hno, ρ1, h1, _, R1, .cons r1 .nil, a1⟩
      · exact a1.elim
    · exact a1.elim
theorem mkEnd_aft {S : Sy} {fn : Hea → Val → Hea → Res Val} (fo : FinOk fn) {ρ0 ρ : Own} {H0 H : Hp} {h0 : Hea} {r : Res Val} {Q : VK} {W : XK} {x : Addr} (R0 : Rel S ρ0 h0 H0) (g : Go S ρ0 H0 ρ H) (ex : ρ.nm[h0.length]? = some x) (a : Aft S ρ0 H0 (mkEnd fn h0 r) Q W) : Aft S ρ H r (fun v H2 => v = .non ∧ Q (.ref x) H2) W := by
  unfold mkEnd at a
  split at a
  · intro ρ1 v H1 s R1 r1
    cases r1
    exact ⟨rfl, fo _ _ _ _ _ _ _ _ R0 a ρ1 (.ref x) H1 (g.trans s) R1 (.ref (s.sub _ _ ex))⟩
  · exact a.elim
  · exact fun ρ1 v H1 dx s => a ρ1 v H1 dx (g.trans s)
  · exact a
theorem se_make {fn : Hea → Val → Hea → Res Val} (fo : FinOk fn) (hm : X.mg x = some (.ref (T.ca c))) (M : Mk X.K (T.ca c) f) (F : FnOk X.prog X.w X.K X.mg X.base (L2.CX X.prog X.w) k f fd ps (spEv (sy T X) cf)) (hr : Room (k + 1) X.A) (hb : Binds X.K fd ps []) (tk : Takes X W) (ha : SA T X W (e :: es) g) (hg : Gl X x := by rfl)
    (hdb : (x == ("__debug__" : Str)) = false := by decide) (he : starEach (e :: es) X.env = (false, eval e X.env) :: starEach es X.env := by rfl) (hpl : (backTo pos (starEach es X.env)).any (·.1) = false := by rfl) : SE T X W (.Call (.Name x p) (e :: es) [] pos) (eMakeG fn c cf g) :=
  (pe_mkS (E := WE W) M F hr hg hm hb (fun σ => passAt tk σ) ha hdb he hpl).imp fun σ H Q q => by
    obtain ⟨ρ, e, h, R, E, a⟩ := q
    unfold eMakeG at a
    refine ⟨ρ, e, h, R, E, (AftA.bind a).mono fun us H1 ⟨ρ1, ds, h1, s, R1, r1, a1⟩ => ?_⟩
    intro y dx ny ndx hne
    have g1 : Go (sy T X) ρ1 H1 ρ1 (upd H1 dx (.own y)) := .side ndx
    have R2 : Rel (sy T X) ρ1 h1 (upd H1 dx (.own y)) := R1.side ndx
    have ny2 : upd H1 dx (.own y) y = none := by rw [upd_ne (Ne.symm hne)]; exact ny
    have g2 : Go (sy T X) ρ1 (upd H1 dx (.own y)) (ρ1.add y) (upd (upd H1 dx (.own y)) y (.ins (T.ca c) dx [])) := .new ny2
    have R3 : Rel (sy T X) (ρ1.add y) (h1 ++ [.ins c []]) (upd (upd H1 dx (.own y)) y (.ins (T.ca c) dx [])) := R2.new ny2 (.ins upd_same .nil)
    have ey : (ρ1.add y).nm[h1.length]? = some y := by rw [R1.len]; exact add_at
    exact ⟨ρ1.add y, h1 ++ [.ins c []], .ref h1.length :: ds, R3, .cons (.ref ey) (r1.go (g1.trans g2)), mkEnd_aft fo R1 (g1.trans g2) ey a1⟩
end
end Lad
end
/-! ## LadEnum -/
section
set_option maxRecDepth 100000
set_option maxHeartbeats 2000000
namespace Lad
open PySem
/-! ### enumerate(v) by what iter(v) makes -/
def enO (it : Addr) : Obj := { cls := .type "enumerate", data := .fields #[.none, .bool false, .ref it, rawInt 0, .none, .none] }
theorem meets_en1 {v : Value} {o : Obj} {H : Heap → Prop} (B : Begins v o H) : Meets (Builtin.«enumerate.__new__» ⟨[.type "enumerate", v], []⟩)
    (fun _ R s => H s.heap ∧ R (.ok (.ret (.ref (s.heap.push o).objs.size))) { s with heap := (s.heap.push o).push (enO s.heap.objs.size) }) :=
  .of_wp fun prog w A R s h => by
    obtain ⟨hp, gs, dr, tk, os⟩ := s
    obtain ⟨h1, h⟩ := h
    have hsub := sub_enumerate
    have itq : ∀ {A' : Around} {E : Value → Shared → Prop} {Q : Value → Shared → Prop}, Q (.ref hp.objs.size) ⟨hp.push o, gs, dr, tk, os⟩ → wpAny (model prog w) A' (pyIter v) Q E ⟨hp, gs, dr, tk, os⟩ := fun z => B.iter prog w _ _ ⟨hp, gs, dr, tk, os⟩ _ h1 z
    wp_walk using itq
    refine wpAny_stack_any fun st => wpAny_pure ?_
    split
    · rename_i c _ _ _ _ _
      cases (c == Value.type "enumerate") <;> (wp_walk using itq; exact ⟨_, rfl, h⟩)
    · wp_walk using itq
      exact ⟨_, rfl, h⟩
section
variable {prog : Program} {w : World} {A : Around} {E : Value → Shared → Prop} {s : Shared}
theorem call_en1 {v : Value} {o : Obj} {H : Heap → Prop} {Q : Value → Shared → Prop} (B : Begins v o H) (h1 : H s.heap)
    (h : ∀ h', IsEnum h' (s.heap.objs.size + 1) s.heap.objs.size 0 .none → h'.get? s.heap.objs.size = some o → (∀ b u, s.heap.get? b = some u → h'.get? b = some u) → Q (.ref (s.heap.objs.size + 1)) { s with heap := h' }) :
    wpAny (model prog w) A (call (.type "enumerate") [v]) Q E s := by
  have sz : (s.heap.push o).objs.size = s.heap.objs.size + 1 := Heap.size_push ..
  have here : IsEnum ((s.heap.push o).push (enO s.heap.objs.size)) (s.heap.objs.size + 1) s.heap.objs.size 0 .none := by
    have z := Heap.get?_push_size (s.heap.push o) (o := enO s.heap.objs.size) rfl
    rw [sz] at z
    exact z
  refine callType_new F.called_enumerate (by decide) (F.typeCall_enumerate_1 _) (F.newCall_enumerate_1 _) (fun ob => F.args_object_init_2 ob _) F.entry_enumerate_new (meets_en1 B) ⟨h1, ?_⟩
  show _ ∧ _
  rw [sz]
  exact ⟨⟨_, here, rfl⟩, h _ here (Heap.get?_push_of_some _ (Heap.get?_push_size _ B.free)) fun b u z => Heap.get?_push_of_some _ (Heap.get?_push_of_some _ z)⟩
end
open L2 PySem.Spec PyProof.Rows
/-- the tuple at a, each item in a new pair -/
def Itet (K : PySem.W.Frag) (a : Addr) : It where
  go := fun i H => ∃ (xs : List V) (x : V), SqT K H a xs ∧ xs[i]? = some x
  yld := fun i H v H' => ∃ T x, v = .ref T ∧ H T = none ∧ H' = upd H T (.tup [.int (i : Nat), x]) ∧ ∀ xs, SqT K H a xs → xs[i]? = some x
  stop := fun i H => ∃ xs : List V, SqT K H a xs ∧ xs.length = i
theorem turn_en {P : Program} {w : World} {K : PySem.W.Frag} {elts : List Expr} {kk : Nat} {tpos : Pos} (a e it : Addr) (hai : a ≠ it) (hae : a ≠ e) :
    Turn P w K (.Tuple elts kk tpos) (Itet K a) [e, it] e (fun i h => (∃ old, IsEnum h e it ((i : Nat) : Int) old) ∧ h.IsTupleIter it a i ∧ e ≠ it) where
  mem := by simp
  obj := by
    rintro i h ⟨⟨old, he⟩, ⟨o, ho, hc, hd⟩, _⟩ b hb
    rcases (show b = e ∨ b = it by simpa using hb) with rfl | rfl
    · exact ⟨_, he, fun v q => nomatch q⟩
    · exact ⟨o, ho, fun v q => by rw [hd] at q; cases q⟩
  keep := by
    rintro i h h' ⟨⟨old, he⟩, hi, hne⟩ k
    exact ⟨⟨old, k e (by simp) _ he⟩, hi.at fun o q => k it (by simp) o q, hne⟩
  item := by
    intro X hP hw hK hc i pins s σ H E I hf st hg
    subst hP hw hK
    obtain ⟨⟨old, he⟩, hit, hne⟩ := st
    obtain ⟨xs, x, hq, hx⟩ := hg
    obtain ⟨its, rv, tp, hz⟩ := I.tuple hq
    obtain ⟨u, hu, ru⟩ := rv.get hx
    have hlt : i < its.toArray.size := by
      have := (List.getElem?_eq_some_iff.mp hu).1
      simpa using this
    have le : e < s.heap.objs.size := Heap.lt_size he
    have li : it < s.heap.objs.size := by obtain ⟨_, q, _⟩ := hit; exact Heap.lt_size q
    have D := Draws.tuple (prog := X.prog) (w := X.w) (A := X.A.in1) (I.ok.hd hc) it a hai its.toArray
    refine wpAny_pyNext_enum_itemD D he ⟨hit, tp⟩ hlt hne (by simp [hne, Ne.symm hae]) fun y h' tk py ho hst' hT hsz hk => ?_
    have ey : y = u := by
      have z : its.toArray[i]? = some y := py
      have z2 : its.toArray[i]? = some u := by simpa using hu
      rw [z2] at z
      exact (Option.some.inj z).symm
    subst ey
    refine ⟨_, rfl, wpAny_letOwnedTupleGo_enum (s := { s with heap := h', toks := tk + 1 }) ho fun h'' he' sb => ?_⟩
    have hT2 : h''.get? s.heap.objs.size = some { cls := .type "tuple", data := .seq #[.int i tk, y] } := (sb.2 _ (Nat.ne_of_gt le)).trans hT
    have nw : ObjOk X.prog X.w (upd H s.heap.objs.size (.tup [.int (i : Nat), x])) h'' s.heap.objs.size (.tup [.int (i : Nat), x]) := ⟨by show 2 ≤ sizeLine; decide, [.int i tk, y], .cons ⟨_, rfl⟩ (.cons ru .nil), ⟨_, hT2, rfl, _, rfl⟩⟩
    have J : Inv X pins σ (upd H s.heap.objs.size (.tup [.int (i : Nat), x])) { s with heap := h'', toks := tk + 1 } :=
      I.turnedNew (ch := [e, it]) (fun b ob hb q => (sb.2 b (fun z => hb (by simp [z]))).trans (hk b ob (fun z => hb (by simp [z])) (fun z => hb (by simp [z])) q)) hf (Nat.le_refl _) nw
    refine ⟨.ref s.heap.objs.size, _, J, rfl, ⟨_, x, rfl, I.hok.fresh (Nat.le_refl _), rfl, fun ys hy => by rw [I.tuple_inj hy hq]; exact hx⟩, ⟨⟨y, ?_⟩, hst'.1.at fun o q => (sb.2 it (Ne.symm hne)).trans q, hne⟩, fun b hb => ?_⟩
    · rw [show ((i + 1 : Nat) : Int) = (i : Int) + 1 by omega]
      exact he'
    · have lb : b < s.heap.objs.size := by
        rcases (show b = e ∨ b = it by simpa using hb) with rfl | rfl
        · exact le
        · exact li
      rw [upd_ne (Nat.ne_of_lt lb)]
      exact (hf b hb).1
  done := by
    intro X hP hw hK hc i pins s σ H E I hf st hg
    subst hP hw hK
    obtain ⟨⟨old, he⟩, hit, hne⟩ := st
    obtain ⟨xs, hq, hx⟩ := hg
    obtain ⟨its, rv, tp, hz⟩ := I.tuple hq
    obtain ⟨f0, f1, f2, f3, f4, f5⟩ := hf it (by simp)
    have D := Draws.tuple (prog := X.prog) (w := X.w) (A := X.A.in1) (I.ok.hd hc) it a hai its.toArray
    have en : its.toArray.size = i := by rw [List.size_toArray, ← rv.length]; exact hx
    refine wpAny_pyNext_enum_endD D he ⟨by rw [en]; exact hit, tp⟩ fun h' eb => ?_
    exact ⟨rfl, I.turned (t' := s.toks) (fun b o hb q => eb b o hb q) f0 f1 f3 f4 f5⟩
  self := fun A i s Q E st h => let ⟨⟨_, he⟩, _⟩ := st; wpAny_pyIter_enum he h
def iEnT (K : PySem.W.Frag) (ta : TA) : TI := fun σ H R => ta σ H fun vs H1 => ∃ a xs, vs = [.ref a] ∧ SqT K H1 a xs ∧ R (Itet K a) H1
theorem pi_enT {X : Cx} {e : Expr} {ta : TA} {p pos tpos : Pos} {elts : List Expr} {kk : Nat} (hg : Gl X "enumerate") (hm : X.mg "enumerate" = none) (ha : PA X [e] ta) (hs : starEach [e] X.env = [(false, eval e X.env)] := by rfl) :
    PI X (.Tuple elts kk tpos) (.Call (.Name "enumerate" p) [e] [] pos) (iEnT X.K ta) := by
  refine ⟨?_⟩
  intro pins s σ H R I hw
  have given := ha.run pos pins s σ H _ I hw
  refine Call_ (ld_blt I hg hm boot_enumerate (PyProof.Rows.callWith_type1 (thn given ?_) hs rfl))
  rintro us s1 ⟨vs, H1, I1, r1, a, xs, rfl, hq, q⟩
  match us, r1 with
  | [u], .cons r .nil =>
    have eu : u = Value.ref a := r
    subst eu
    obtain ⟨its, rv, tp, hz⟩ := I1.tuple hq
    have la : a < s1.heap.objs.size := by obtain ⟨o, ho, _⟩ := tp; exact Heap.lt_size ho
    refine call_en1 (begins_tuple a its.toArray) tp fun h' he hit hk => wpAny_pyIter_enum he ?_
    have I2 : Inv X pins σ H1 { s1 with heap := h' } := I1.kept (t' := s1.toks) hk
    have ti : h'.IsTupleIter s1.heap.objs.size a 0 := ⟨_, hit, rfl, rfl⟩
    refine ⟨s1.heap.objs.size + 1, [s1.heap.objs.size + 1, s1.heap.objs.size], _, _, H1, rfl, I2, turn_en a (s1.heap.objs.size + 1) s1.heap.objs.size (Nat.ne_of_lt la) (Nat.ne_of_lt (Nat.lt_succ_of_lt la)), ⟨⟨.none, he⟩, ti, Nat.succ_ne_self _⟩, fun b hb => ?_, q⟩
    have le : s1.heap.objs.size ≤ b := by
      rcases (show b = s1.heap.objs.size + 1 ∨ b = s1.heap.objs.size by simpa using hb) with rfl | rfl
      · exact Nat.le_add_right _ _
      · exact Nat.le_refl _
    exact I1.fpOk le (I1.hok.fresh le)
/-! ### the rule -/
def iEnumS (f : En → Hea → Res Val) : En → Hea → Res Src := fun e h => (f e h).bind fun d h1 => match d with
  | .ref i => if (lstAt h1 i).isSome = true then .ok (srcEnum i) h1 else .stuck
  | .tup xs => .ok (srcEnumF xs) h1
  | .lst xs => .ok (srcEnumF xs) h1
  | _ => .stuck
theorem j_enT {S : Sy} {H : Hp} {ρ : Own} {a : Addr} {xs : List Val} {vs : List V} (sq : SqT S.K H a vs) (r : Reps S ρ H xs vs) : JOk S ρ H (Itet S.K a) (srcEnumF xs).item := jfix fun ρ' H' h' g R k hk => by
  have sq' := g.kp.1 _ _ sq
  have r' := r.mono g
  rw [enumFrom_len] at hk
  rw [enumFrom0]
  · unfold enumV
    cases e : xs[k]? with
    | none =>
      have hk2 : xs.length ≤ k := List.getElem?_eq_none_iff.mp e
      exact ⟨vs, sq', by rw [← r.length]; omega⟩
    | some d =>
      obtain ⟨v, ev, rv⟩ := r'.get e
      refine ⟨⟨vs, v, sq', ev⟩, fun x H'' ⟨t, y, ex, nt, eh, q⟩ => ?_⟩
      have z := q vs sq'
      rw [ev] at z
      cases z
      subst ex eh
      exact ⟨.side nt, R.side nt, .tup (.inl (.inl upd_same)) (.cons (.int _) (.cons (rv.mono (.side nt)) .nil))⟩
section
variable {T : Tb} {X : Cx} {W : WX} {a : Expr} {f : En → Hea → Res Val} {pos p tpos : Pos} {elts : List Expr} {kk : Nat}
def iEnumTup (f : En → Hea → Res Val) : En → Hea → Res Src := fun e h => (f e h).bind fun d h1 => match d with
  | .tup xs => .ok (srcEnumF xs) h1
  | _ => .stuck
theorem si_enumT (hg : Gl X "enumerate") (hm : X.mg "enumerate" = none) (ha : SE T X W a f) (hs : starEach [a] X.env = [(false, eval a X.env)] := by rfl) : SI T X W (.Tuple elts kk tpos) (.Call (.Name "enumerate" p) [a] [] pos) (iEnumTup f) :=
  (pi_enT hg hm (pa_cons ha pa_nil hs) hs).imp fun σ H Q q => by
    obtain ⟨ρ, e, h, R, E, a⟩ := q
    refine ⟨ρ, e, h, R, E, (AftI.bind a).mono fun v H1 ⟨ρ1, d, h1, s, R1, r, a1⟩ => ?_⟩
    split at a1
    · obtain ⟨p, vs, rfl, sq, rr⟩ := r.tup_
      exact ⟨p, vs, rfl, sq, a1 ρ1 H1 _ .rfl R1 (j_enT sq rr)⟩
    · exact a1.elim
/-- enumerate of a list or a tuple -/
theorem si_enumS (hg : Gl X "enumerate") (hm : X.mg "enumerate" = none) (ha : SE T X W a f) (hs : starEach [a] X.env = [(false, eval a X.env)] := by rfl) : SI T X W (.Tuple elts kk tpos) (.Call (.Name "enumerate" p) [a] [] pos) (iEnumS f) :=
  (pi_or (si_enum hg hm ha hs) (si_enumT hg hm ha hs)).imp fun σ H Q q => by
    obtain ⟨ρ, e, h, R, E, a⟩ := q
    by_cases hc : ∃ xs h1, f e h = .ok (.tup xs) h1
    · obtain ⟨xs, h1, hf⟩ := hc
      refine .inr ⟨ρ, e, h, R, E, ?_⟩
      unfold iEnumS at a
      unfold iEnumTup
      rw [hf] at a ⊢
      exact a
    · refine .inl ⟨ρ, e, h, R, E, ?_⟩
      unfold iEnumS at a
      unfold iEnumV
      cases hf : f e h with
      | ok d h1 =>
        rw [hf] at a
        cases d with
        | tup xs => exact absurd ⟨xs, h1, hf⟩ hc
        | _ => exact a
      | exc c d h1 => rw [hf] at a; exact a
      | stuck => rw [hf] at a; exact a
end
end Lad
end
/-! ## LadGc -/
section
set_option maxRecDepth 100000
set_option maxHeartbeats 2000000
namespace Lad
open PySem L2
/-! ### for, garbage dropped behind each turn -/
def undE (n : Nat) : En → Bool
  | [] => true
  | none :: e => undE n e
  | some d :: e => d.und n && undE n e
def wipeAll (e : En) : List Nat → En
  | [] => e
  | i :: is => wipeAll (e.set i none) is
/-- the names of dead are forgotten; where nothing held is younger than n, the heap is cut at n -/
def gcN (dead : List Nat) (n : Nat) (e : En) (h : Hea) : En × Hea := match wipeAll e dead with
  | e1 => match (if undE n e1 = true then shut n n h else none) with
    | some g => (e1, g)
    | none => (e1, h)
def forK (gc : En → Hea → En × Hea) (it : Nat → Hea → Option (Option Val)) (b : Val → En → Option En) (body : En → Hea → SRes) : Nat → Nat → En → Hea → SRes
  | 0, _, _, _ => .stuck
  | n + 1, k, e, h => match it k h with
    | some none => .nx e h
    | some (some v) => match b v e with
      | some e1 => match body e1 h with
        | .nx e2 h2 => match gc e2 h2 with | (e3, h3) => forK gc it b body n (k + 1) e3 h3
        | .ct e2 h2 => match gc e2 h2 with | (e3, h3) => forK gc it b body n (k + 1) e3 h3
        | .bk e2 h2 => .nx e2 h2
        | r => r
      | none => .stuck
    | none => .stuck
def sForK (dead : List Nat) (src : En → Hea → Res Src) (b : Val → En → Option En) (body : En → Hea → SRes) : En → Hea → SRes := fun e h => ofR (src e h) e fun s h1 => forK (gcN dead h1.length) s.item b body s.fuel 0 e h1
section
variable {S : Sy} {H : Hp} {ρ : Own}
theorem ER.wipeAll : ∀ (is : List Nat) {e : En} {σ : St}, ER S ρ H e σ → ER S ρ H (Lad.wipeAll e is) σ
  | [], _, _, r => r
  | i :: is, _, _, r => ER.wipeAll is (r.weak i)
theorem ER.cut {ρ' : Own} (s : Less ρ ρ') : ∀ {e : En} {σ : St}, undE ρ.nm.length e = true → ER S ρ' H e σ → ER S ρ H e σ
  | _, _, _, .nil => .nil
  | none :: _, _, h, .cons r t => .cons (fun x e => nomatch e) (ER.cut s h t)
  | some d :: _, _, h, .cons r t => by
    simp only [undE, Bool.and_eq_true] at h
    refine .cons (fun x e => ?_) (ER.cut s h.2 t)
    obtain ⟨v, e1, e2⟩ := r x e
    cases e
    exact ⟨v, e1, e2.cut s h.1⟩
theorem gc_ok {ρ1 ρ4 : Own} {H1 H4 : Hp} {h1 h4 : Hea} {e4 : En} {σ4 : St} {dead : List Nat} (R1 : Rel S ρ1 h1 H1) (g : Go S ρ1 H1 ρ4 H4) (R4 : Rel S ρ4 h4 H4) (E4 : ER S ρ4 H4 e4 σ4) :
    ∃ ρ5, Go S ρ1 H1 ρ5 H4 ∧ Rel S ρ5 (gcN dead h1.length e4 h4).2 H4 ∧ ER S ρ5 H4 (gcN dead h1.length e4 h4).1 σ4 := by
  have E5 := ER.wipeAll dead E4
  have hl := R1.len
  unfold gcN
  dsimp only
  split
  · rename_i gg hg
    split at hg
    · rename_i hu
      exact ⟨ρ1, g.drop, R1.cut g.less R4 hg, E5.cut g.less (by rw [← hl]; exact hu)⟩
    · cases hg
  · exact ⟨ρ4, g, R4, E5⟩
end
section
variable {T : Tb} {X : Cx} {W : WX} {tg a : Expr} {src : En → Hea → Res Src} {body : List Stmt} {fb : En → Hea → SRes} {g : TG} {b : Val → En → Option En} {vs : List Nat} {pos : Pos}
theorem st_forK (dead : List Nat) (hp : PassesOwn (model X.prog X.w) X.A X.env X.xe) (hc : X.calm = true) (hi : SI T X W tg a src) (hg : PG X tg g) (ok : GOk (sy T X) vs g b) (hb : SSs T X W body fb) (hs : ∀ x, foldedSetIterable a X.env x = pure x := by intro _; rfl) :
    SSt T X W (.For tg a body [] pos) (sForK dead src b fb) := by
  refine PS.imp (ps_for hp hc hi hg hb hs) fun D σ H q => ?_
  obtain ⟨ρ, e, h, R, E, a⟩ := q
  refine ⟨ρ, e, h, R, E, (a.ofI E).mono fun J H1 ⟨ρ1, d, h1, s, R1, j, E1, a1⟩ => ?_⟩
  refine ⟨fun k m σ H2 => ∃ ρ2 e2 h2, Go (sy T X) ρ1 H1 ρ2 H2 ∧ Rel (sy T X) ρ2 h2 H2 ∧ ER (sy T X) ρ2 H2 e2 σ ∧ AftS (sy T X) ρ1 H1 (forK (gcN dead h1.length) d.item b fb m k e2 h2) D W, ⟨d.fuel, ρ1, e, h1, .rfl, R1, E1, a1⟩, fun k m σ H2 w => ?_⟩
  obtain ⟨ρ2, e2, h2, g2, R2, E2, a2⟩ := w
  cases m with
  | zero => exact a2.elim
  | succ m =>
    have jk := j ρ2 H2 h2 g2.mv R2 k
    unfold forK at a2
    cases hit : d.item k h2 with
    | none => rw [hit] at a2; exact a2.elim
    | some o =>
      rw [hit] at a2 jk
      cases o with
      | none => exact .inl ⟨jk, a2 ρ2 σ H2 g2 R2 E2⟩
      | some v =>
        refine .inr ⟨jk.1, fun σ' H' => ∃ ρ2 e2 h2, Go (sy T X) ρ1 H1 ρ2 H' ∧ Rel (sy T X) ρ2 h2 H' ∧ ER (sy T X) ρ2 H' e2 σ' ∧ AftS (sy T X) ρ1 H1 (forK (gcN dead h1.length) d.item b fb m (k + 1) e2 h2) D W, fun σ' H' z => ⟨m, Nat.lt_succ_self m, z⟩, fun x H' y => ?_⟩
        obtain ⟨g3, R3, r3⟩ := jk.2 x H' y
        dsimp only at a2
        cases hbv : b v e2 with
        | none => rw [hbv] at a2; exact a2.elim
        | some e3 =>
          rw [hbv] at a2
          refine ok ρ2 H' h2 e2 σ v x e3 _ R3 (E2.go g3) r3 hbv fun σ3 E3 _ => ⟨ρ2, e3, h2, R3, E3, ?_⟩
          have g4 := g2.trans g3
          dsimp only at a2
          revert a2
          cases fb e3 h2 with
          | nx e4 h4 =>
            intro a2 ρ4 σ4 H4 s4 R4 E4
            obtain ⟨ρ5, g5, R5, E5⟩ := gc_ok (dead := dead) R1 (g4.trans s4) R4 E4
            exact ⟨ρ5, _, _, g5, R5, E5, a2⟩
          | ct e4 h4 =>
            intro a2 ρ4 σ4 H4 s4 R4 E4
            obtain ⟨ρ5, g5, R5, E5⟩ := gc_ok (dead := dead) R1 (g4.trans s4) R4 E4
            exact ⟨ρ5, _, _, g5, R5, E5, a2⟩
          | bk e4 h4 => exact fun a2 ρ4 σ4 H4 s4 R4 E4 => a2 ρ4 σ4 H4 (g4.trans s4) R4 E4
          | rt v4 h4 => exact fun a2 => AftS.later (r := .rt v4 h4) a2 g4
          | exc c4 d4 e4 h4 => exact fun a2 => AftS.later (r := .exc c4 d4 e4 h4) a2 g4
          | stuck => exact fun a2 => a2
end
end Lad
end
/-! ## LadAug -/
section
set_option maxRecDepth 100000
set_option maxHeartbeats 2000000
namespace Lad
open PySem L2
/-! ### x += e, x -= e of ints -/
def sAug (i : Nat) (o : Int → Int → Int) (f : En → Hea → Res Val) : En → Hea → SRes := fun e h => match e[i]? with
  | some (some (.int x)) => ofR (f e h) e fun d h1 => match d with
    | .int y => .nx (e.set i (some (.int (o x y)))) h1
    | _ => .stuck
  | _ => .stuck
section
variable {T : Tb} {X : Cx} {W : WX} {a : Expr} {f : En → Hea → Res Val} {i : Nat} {x : Str} {op : Operator} {o : Int → Int → Int} {pos pos' : Pos}
theorem st_aug (hN : X.N.Nodup) (hi : X.N[i]? = some x) (hx : Loc X.env.scope x) (ho : PIp X op (ipI o)) (ha : SE T X W a f) (hf : X.fn x = true ∨ X.env.scope.names.lookup x = some .local := by first | exact .inl rfl | exact .inr rfl | assumption) :
    SSt T X W (.AugAssign (.Name x pos') op a pos) (sAug i o f) := (ps_aug hN hi hx ha ho hf).imp fun D σ H q => by
  obtain ⟨ρ, e, h, R, E, a⟩ := q
  unfold sAug at a
  split at a
  · rename_i n hn
    obtain ⟨v, e1, r1⟩ := E.get hn
    obtain rfl := r1.int_
    refine ⟨_, e1, ρ, e, h, R, E, (AftS.ofR a E).mono fun y H1 ⟨ρ1, d, h1, s, R1, r, E1, a1⟩ => ?_⟩
    split at a1
    · obtain rfl := r.int_
      exact ⟨_, _, rfl, rfl, a1 ρ1 _ H1 .rfl R1 (ER.set (.int _) i E1)⟩
    · exact a1.elim
  · exact a.elim
end
/-! ### break, continue -/
def sBrk : En → Hea → SRes := fun e h => .bk e h
def sCnt : En → Hea → SRes := fun e h => .ct e h
theorem st_brk {T : Tb} {X : Cx} {W : WX} {pos : Pos} : SSt T X W (.Break pos) sBrk := ps_break.imp fun D σ H q => by
  obtain ⟨ρ, e, h, R, E, a⟩ := q
  exact a ρ σ H .rfl R E
theorem st_cnt {T : Tb} {X : Cx} {W : WX} {pos : Pos} : SSt T X W (.Continue pos) sCnt := ps_continue.imp fun D σ H q => by
  obtain ⟨ρ, e, h, R, E, a⟩ := q
  exact a ρ σ H .rfl R E
end Lad
end
/-! ## LadCall -/
section
set_option maxRecDepth 100000
set_option maxHeartbeats 2000000
namespace Lad
open PySem PySem.Spec PySem.Calls PyProof.Rows L2
open PySem.W (Frag)
/-! ### o(e, ..), o an instance with a __call__ of its own -/
theorem inst_of {X : Cx} {pins : List (Addr × Obj)} {σ : L2.St} {H : Hp} {s : Shared} {a C dx : Addr} {fs : List (Str × V)} (I : Inv X pins σ H s) (e : H a = some (.ins C dx fs)) : ∃ od, PySem.W.InstAt s.heap a (PySem.W.instObj C dx) C (some od) := by
  obtain ⟨mA, O, _, _, _, _⟩ := ins_get I.hok e
  obtain ⟨od, h, _⟩ := O.look
  exact ⟨od, h⟩
section
variable {M : Model} {A : Around} {E : Value → Shared → Prop} {s : Shared} {env : Env} {pos : Pos} {x : Addr} {Q : Value → Shared → Prop}
theorem callWith_ofL {as : List (Bool × Sem Value)} (np : (as.any (·.1) || ([] : List (Option Str × Sem Value)).any (·.1.isNone)) = false)
    (h : wpAny M A (evalArgs (.ref x) true as []) (fun a s1 => PySem.W.Looks M s1.heap (keeperOf (.ref x)) .caller ∧ wpAny M A (call (.ref x) ([] ++ a.pos) a.kw) Q E s1) E s) : wpAny M A (callWith pos (.ref x) [] as []) Q E s := by
  unfold callWith
  apply wpAny_bind
  apply wpAny_holding
  refine wpAny_mono h ?_ (fun _ _ z => z)
  rintro vs s1 ⟨L, hq⟩
  apply wpAny_bind
  apply wpAny_standAt
  simp only [np]
  apply wpAny_bind
  apply L.here
  exact wpAny_bind (wpAny_mono (wpAny_operateT hq) (fun r s2 hr => wpAny_bind (wpAny_holding (wpAny_point (wpAny_pure hr)))) fun _ _ z => z)
theorem callWith_own {e : Expr} {rest : List Expr} (h : wpAny M A (spliced (backTo pos (starEach (e :: rest) env))) (fun vs s1 => PySem.W.Looks M s1.heap (keeperOf (.ref x)) .caller ∧ wpAny M A (call (.ref x) vs) Q E s1) E s)
    (he : starEach (e :: rest) env = (false, eval e env) :: starEach rest env := by rfl) (hpl : (backTo pos (starEach rest env)).any (·.1) = false := by rfl) :
    wpAny M A (callWith pos (.ref x) [] (backTo pos (starEach (e :: rest) env)) []) Q E s := by
  rw [he] at h ⊢
  refine callWith_ofL ?_ (evalArgs_plain h)
  show ((false || (backTo pos (starEach rest env)).any (·.1)) || false) = false
  rw [hpl]
  rfl
end
section
variable {X : Cx} {CX : CXT} {k : Nat} {f C : Addr} {fd : FuncData} {ps : List Str} {sp : Sp} {E : L2.St → XK} {x : Str} {p pos : Pos} {e : Expr} {es : List Expr} {tf : TE} {t : TA}
structure CallC (K : Frag) (C f : Addr) : Prop where
  at_ : PySem.W.findIn K (.ref C) "__call__" = some (some (.ref f))
  fn : PySem.W.isFn K (.ref f) = true
  fi : PySem.W.fnIn K f = true
def tCO (C : Addr) (sp : Sp) (E : L2.St → XK) (tf : TE) (t : TA) : TE := fun σ H Q => tf σ H fun v H1 => ∃ a, v = .ref a ∧ t σ H1 fun vs H2 => (∃ dx fs, H2 a = some (.ins C dx fs)) ∧ sp (v :: vs) H2 Q (E σ)
theorem pe_callO (hf : PE X (.Name x p) tf) (c : CallC X.K C f) (F : FnOk X.prog X.w X.K X.mg X.base CX k f fd ps sp) (hr : Room k X.A) (hb : Binds X.K fd ps []) (hx : ∀ σ, PassesAt CX X σ (E σ)) (ha : PA X (e :: es) t)
    (he : starEach (e :: es) X.env = (false, eval e X.env) :: starEach es X.env := by rfl) (hpl : (backTo pos (starEach es X.env)).any (·.1) = false := by rfl) : PE X (.Call (.Name x p) (e :: es) [] pos) (tCO C sp E tf t) := by
  refine ⟨?_⟩
  intro pins s σ H Q I hw
  have recv := hf.run pins s σ H _ I hw
  refine wpAny_Call_Name_kw (thn recv ?_)
  rintro u s1 ⟨v, H1, I1, rv, a, rfl, w1⟩
  have eu : u = Value.ref a := rv
  subst eu
  have given := ha.run pos pins s1 σ H1 _ I1 w1
  refine callWith_own (thn given ?_) he hpl
  rintro us s2 ⟨vs, H2, I2, rs, ⟨dx, fs, ea⟩, w2⟩
  obtain ⟨od, at2⟩ := inst_of I2 ea
  refine ⟨PySem.W.kco_keeper at2 rfl, ?_⟩
  have all : Vals (V.ref a :: vs) (Value.ref a :: us) := .cons rfl rs
  have len : (Value.ref a :: us).length = ps.length := by
    rw [← all.length]
    exact F.len _ _ _ _ w2
  have bind := hb s2 (Value.ref a :: us) I2.kIn (by rw [List.append_nil]; exact len)
  rw [List.append_nil] at bind
  have body := F.run X.A X.stack s2 H2 ⟨Value.ref a :: us, []⟩ (Value.ref a :: us) (V.ref a :: vs) Q (E σ) hr I2.env0 bind all w2
  apply wpAny_call
  refine PySem.W.kco_code I2.kIn at2 rfl c.at_ c.fn c.fi (codeAny_mono body ?_)
  intro res s3 back
  match res, back with
  | .error er, back => exact hx σ pins _ _ er s3 I2 back
  | .ok (.ret u), back => exact I2.after back
  | .ok .next, back => exact False.elim back
  | .ok .brk, back => exact False.elim back
  | .ok .cont, back => exact False.elim back
end
def eCallO (c : Nat) (cf : List Val → Hea → Res Val) (f : En → Hea → Res Val) (g : En → Hea → Res (List Val)) : En → Hea → Res Val := fun e h => (f e h).bind fun o h1 => match insOf h1 o with
  | some _ => (g e h1).bind fun ds h2 => match insOf h2 o with
    | some (c', _) => if c' = c then cf (o :: ds) h2 else .stuck
    | none => .stuck
  | none => .stuck
section
variable {T : Tb} {X : Cx} {W : WX} {x : Str} {f : Addr} {fd : FuncData} {ps : List Str} {k c : Nat} {cf : List Val → Hea → Res Val} {e : Expr} {es : List Expr} {fo : En → Hea → Res Val} {g : En → Hea → Res (List Val)} {p pos : Pos}
theorem se_callO (C : CallC X.K (T.ca c) f) (F : FnOk X.prog X.w X.K X.mg X.base (L2.CX X.prog X.w) k f fd ps (spEv (sy T X) cf)) (hr : Room k X.A) (hb : Binds X.K fd ps []) (tk : Takes X W) (ho : SE T X W (.Name x p) fo) (ha : SA T X W (e :: es) g)
    (he : starEach (e :: es) X.env = (false, eval e X.env) :: starEach es X.env := by rfl) (hpl : (backTo pos (starEach es X.env)).any (·.1) = false := by rfl) : SE T X W (.Call (.Name x p) (e :: es) [] pos) (eCallO c cf fo g) :=
  (pe_callO (E := WE W) ho C F hr hb (fun σ => passAt tk σ) ha he hpl).imp fun σ H Q q => by
    obtain ⟨ρ, e, h, R, E, a⟩ := q
    unfold eCallO at a
    refine ⟨ρ, e, h, R, E, a.bind.mono fun ov H1 ⟨ρ1, od, h1, s, R1, r1, a1⟩ => ?_⟩
    split at a1
    · rename_i fs0 hx0
      obtain ⟨p, _, _, rfl, _, _⟩ := ins_of R1 r1 hx0
      refine ⟨p, rfl, ρ1, e, h1, R1, E.go s, (AftA.bind a1).mono fun us H2 ⟨ρ2, ds, h2, s2, R2, r2, a2⟩ => ?_⟩
      split at a2
      · rename_i c' fs hx
        split at a2
        · rename_i hc
          subst hc
          obtain ⟨p2, dx, vs, e2, hi, _⟩ := ins_of R2 (r1.go s2) hx
          cases e2
          exact ⟨⟨dx, vs, hi⟩, ρ2, h2, _, R2, .cons (r1.go s2) r2, a2⟩
        · exact a2.elim
      · exact a2.elim
    · exact a1.elim
end
end Lad
end
/-! ## LadOwn -/
section
set_option maxRecDepth 100000
set_option maxHeartbeats 2000000
namespace Lad
open PySem PySem.Spec PySem.Calls PyProof.Rows L2
open PySem.W (Frag)
/-! ### what an own class is -/
structure OwnC (K : Frag) (C : Addr) : Prop where
  cl : Cls K C
  ha : PySem.W.findIn K (.ref C) "__class__" = some (some (.builtin "object.__class__"))
  hn : PySem.W.specialIn K (.builtin "object.__class__") "__get__" = some (some (.builtin "getset_descriptor.__get__"))
  ht : PySem.W.takesIn K (.builtin "object.__class__") = some true
  hm : PySem.W.mroIn K C (.type "object") = some true
def ownB (K : Frag) (C : Addr) : Bool := PySem.W.plainGet K C Str.empty && (PySem.W.hasDictIn K C && (PySem.W.plainOver K C && (eqO (PySem.W.findIn K (.ref C) "__setattr__") (some (some (.builtin "object.__setattr__"))) &&
  (eqO (PySem.W.findIn K (.ref C) "__class__") (some (some (.builtin "object.__class__"))) && (eqO (PySem.W.specialIn K (.builtin "object.__class__") "__get__") (some (some (.builtin "getset_descriptor.__get__"))) &&
  (decide (PySem.W.takesIn K (.builtin "object.__class__") = some true) && decide (PySem.W.mroIn K C (.type "object") = some true)))))))
theorem ownB_ok {K : Frag} {C : Addr} (h : ownB K C = true) : OwnC K C := by
  unfold ownB at h
  simp only [Bool.and_eq_true] at h
  obtain ⟨h0, h1, h2, h3, h4, h5, h6, h7⟩ := h
  exact ⟨⟨h0, h1, h2, eqO_ok h3⟩, eqO_ok h4, eqO_ok h5, of_decide_eq_true h6, of_decide_eq_true h7⟩
inductive TY where
  | bt (k : TK) | cl (c : Nat)
def tyY (h : Hea) (d : Val) : Option TY := match insOf h d with
  | some (c, _) => some (.cl c)
  | none => (tyK h d).map .bt
def TY.v (S : Sy) : TY → Value
  | .bt k => .type k.nm
  | .cl c => .ref (S.ca c)
theorem tyY_ok {S : Sy} {ρ : Own} {H : Hp} {h : Hea} {d : Val} {v : V} {t : TY} (R : Rel S ρ h H) (r : Rep S ρ H d v) (e : tyY h d = some t) (ho : ∀ c, t = .cl c → OwnC S.K (S.ca c)) : TyX S.K H v (t.v S) := by
  unfold tyY at e
  split at e
  · rename_i c fs hx
    cases e
    obtain ⟨a, dx, ps, rfl, hi, _⟩ := ins_of R r hx
    have o := ho c rfl
    exact .base (.ins hi o.cl o.ha o.hn o.ht o.hm)
  · obtain ⟨k, e1, rfl⟩ := map_some e
    exact tyK_ok R r e1
/-! ### isinstance(x, C), C an own class -/
def kitB2 (K : Frag) (C : Addr) : Bool := [TK.non, .bool, .int, .str, .tuple, .list, .dict].all fun k => decide (PySem.W.kitOne K (.type k.nm) (.ref C) = some false)
theorem kitB2_ok {K : Frag} {C : Addr} (h : kitB2 K C = true) (k : TK) : PySem.W.kitOne K (.type k.nm) (.ref C) = some false := by
  unfold kitB2 at h
  rw [List.all_eq_true] at h
  exact of_decide_eq_true (h k (by cases k <;> simp))
def oIsO (tab : Nat → Option Bool) (h : Hea) (d : Val) : Option Val := match tyY h d with
  | some (.bt _) => some (.bl false)
  | some (.cl c) => (tab c).map .bl
  | none => none
section
variable {T : Tb} {X : Cx} {W : WX} {a : Expr} {f : En → Hea → Res Val} {pos p p1 : Pos}
theorem se_isO {x : Str} {tab : Nat → Option Bool} {C : Addr} (hg : Gl X "isinstance") (hm : X.mg "isinstance" = none) (hk : kitB2 X.K C = true) (ht : ∀ c b, tab c = some b → OwnC X.K (T.ca c) ∧ PySem.W.kitOne X.K (.ref (T.ca c)) (.ref C) = some b) (ha : SE T X W a f) (hb : PE X (.Name x p1) (tC (.ref C)))
    (hs : starEach (a :: [.Name x p1]) X.env = (false, eval a X.env) :: starEach [.Name x p1] X.env := by rfl) :
    SE T X W (.Call (.Name "isinstance" p) [a, .Name x p1] [] pos) (eUn (oIsO tab) f) := by
  refine PE.imp (pe_callB call_isi hg hm (by decide +kernel) (pa_cons ha (pa_cons hb pa_nil) hs) (he := hs)) fun σ H Q q => ?_
  obtain ⟨ρ, e, h, R, E, a⟩ := tE.bind (f := f) (g := fun e x h1 => opt (oIsO tab h1 x) h1) q
  refine ⟨ρ, e, h, R, E, a.mono fun v H1 ⟨ρ1, e1, d1, h1, b1, a1⟩ => ?_⟩
  obtain ⟨R1, E1, r1⟩ := b1
  show rIsi X.K [v, .ref C] H1 Q
  unfold oIsO at a1
  cases hk2 : tyY h1 d1 with
  | none => rw [hk2] at a1; exact a1.elim
  | some t =>
    rw [hk2] at a1
    cases t with
    | bt k =>
      refine ⟨v, _, _, _, false, rfl, .own _, tyY_ok R1 r1 hk2 (fun c z => nomatch z), kitB2_ok hk k, ?_⟩
      exact Aft.same (d := .bl false) a1 R1 (.bl _)
    | cl c =>
      dsimp only at a1
      cases htab : tab c with
      | none => rw [htab] at a1; exact a1.elim
      | some b =>
        rw [htab] at a1
        obtain ⟨h2, h3⟩ := ht c b htab
        refine ⟨v, _, _, _, b, rfl, .own _, tyY_ok R1 r1 hk2 (fun c' z => by cases z; exact h2), h3, ?_⟩
        exact Aft.same (d := .bl b) a1 R1 (.bl _)
end
/-! ### own operators -/
structure Dun (K : Frag) (C : Addr) (m : Str) (f : Addr) : Prop where
  at_ : PySem.W.findIn K (.ref C) m = some (some (.ref f))
  fn : PySem.W.isFn K (.ref f) = true
  fi : PySem.W.fnIn K f = true
def dunB (m : Str) (K : Frag) (C : Addr) : Bool := eqO (PySem.W.findIn K (.ref C) m) (some (some (.ref (He.ma K C m)))) && (PySem.W.isFn K (.ref (He.ma K C m)) && PySem.W.fnIn K (He.ma K C m))
theorem dunB_ok {m : Str} {K : Frag} {C : Addr} (h : dunB m K C = true) : Dun K C m (He.ma K C m) := by
  unfold dunB at h
  simp only [Bool.and_eq_true] at h
  exact ⟨eqO_ok h.1, h.2.1, h.2.2⟩
section
variable {X : Cx} {CX : CXT} {k : Nat} {f C : Addr} {fd : FuncData} {ps : List Str} {sp : Sp} {E : L2.St → XK} {pins : List (Addr × Obj)} {σ : L2.St} {H : Hp} {s : Shared}
theorem run_ow {A : Around} {Q : VK} {us : List Value} {vs : List V} (F : FnOk X.prog X.w X.K X.mg X.base CX k f fd ps sp) (hr : Room k A) (e0 : Env0 X.prog X.w X.K X.mg X.base A X.stack s H) (hb : Binds X.K fd ps []) (hx : PassesAt CX X σ (E σ))
    (I : Inv X pins σ H s) (r : Vals vs us) (h : sp vs H Q (E σ)) : wpAny (model X.prog X.w) A (call (.ref f) us) (EP X pins σ Q) X.xe s := by
  have hl : us.length = ps.length := by rw [← r.length]; exact F.len _ _ _ _ h
  have b := hb s us I.kIn (by rw [List.append_nil]; exact hl)
  rw [List.append_nil] at b
  refine wpAny_call (codeAny_mono (F.run A X.stack s H ⟨us, []⟩ us vs Q (E σ) hr e0 b r h) fun r s' hq => ?_)
  cases r with
  | error e => exact hx pins H s e s' I hq
  | ok fl =>
    cases fl with
    | ret u => exact I.after hq
    | next => exact False.elim hq
    | brk => exact False.elim hq
    | cont => exact False.elim hq
theorem notFirst_bt {K : Frag} {C : Addr} (k : TK) : PySem.W.notFirst K C (.type k.nm) = true := by
  have e : PySem.W.subIn K (.type k.nm) (.ref C) = some false := by
    cases k
    · show (fastBuiltinMro "NoneType").map (·.contains (.ref C)) = some false
      rw [show fastBuiltinMro "NoneType" = some [.type "NoneType", .type "object"] by decide +kernel]; simp
    · show (fastBuiltinMro "bool").map (·.contains (.ref C)) = some false
      rw [show fastBuiltinMro "bool" = some [.type "bool", .type "int", .type "object"] by decide +kernel]; simp
    · show (fastBuiltinMro "int").map (·.contains (.ref C)) = some false
      rw [show fastBuiltinMro "int" = some [.type "int", .type "object"] by decide +kernel]; simp
    · show (fastBuiltinMro "str").map (·.contains (.ref C)) = some false
      rw [show fastBuiltinMro "str" = some [.type "str", .type "object"] by decide +kernel]; simp
    · show (fastBuiltinMro "tuple").map (·.contains (.ref C)) = some false
      rw [show fastBuiltinMro "tuple" = some [.type "tuple", .type "object"] by decide +kernel]; simp
    · show (fastBuiltinMro "list").map (·.contains (.ref C)) = some false
      rw [show fastBuiltinMro "list" = some [.type "list", .type "object"] by decide +kernel]; simp
    · show (fastBuiltinMro "dict").map (·.contains (.ref C)) = some false
      rw [show fastBuiltinMro "dict" = some [.type "dict", .type "object"] by decide +kernel]; simp
  unfold PySem.W.notFirst
  rw [e]
  simp
/-- != of an own class that has == alone -/
theorem ifBound_objNe {M : Model} {A : Around} {E : Value → Shared → Prop} {K : Frag} {x C : Addr} {ox : Obj} {od : Option Obj} {args : List Value} {Q : Option Value → Shared → Prop} (X : K.In s.heap) (I : PySem.W.InstAt s.heap x ox C od) (hs : PySem.W.findIn K (.ref C) "__ne__" = some (some (.builtin "object.__ne__")))
    (h : wpAny M A (call (.builtin "object.__ne__") (.ref x :: args)) (fun v => Q (some v)) E s) : wpAny M A (callSpecialIfBound? (.ref x) "__ne__" args) Q E s := by
  simp only [callSpecialIfBound?, bindSpecialIfBound?]
  refine wpAny_holding (wpAny_bind (wpAny_bind (wpAny_bind (I.type.here ((PySem.W.looks_findIn X hs).here ?_)))))
  refine wpAny_bind (wpAny_askSetting (wpAny_ite ?_))
  have fin : wpAny M A (call (.builtin "object.__ne__") ([.ref x] ++ args) >>= fun v => pure (some v)) Q E s := wpAny_bind (wpAny_mono h (fun v s' h' => wpAny_pure h') fun _ _ h' => h')
  split
  · exact wpAny_bind (wpAny_of_eq (F.cmp_object.ne.bind _) (wpAny_pure (by exact fin)))
  · exact wpAny_tryCatch (wpAny_bind (wpAny_of_eq (F.cmp_object.ne.bind _) (wpAny_pure (by exact fin))))
theorem objNe_own {prog : Program} {w : World} {A : Around} {E : Value → Shared → Prop} {K : Frag} {x C f : Addr} {ox : Obj} {od : Option Obj} {b : Value} {Q : Fin → Shared → Prop} (X : K.In s.heap) (I : PySem.W.InstAt s.heap x ox C od) (hu : A.units < cLine)
    (hs : PySem.W.findIn K (.ref C) "__eq__" = some (some (.ref f))) (hf : PySem.W.isFn K (.ref f) = true)
    (hcall : wpAny (model prog w) A (call (.ref f) [.ref x, b]) (fun v s' => ∃ c, v = .bool c ∧ Q (.done (.ret (.bool (!c)))) s') E s) :
    wpAny (model prog w) A (Builtin.«object.__ne__» ⟨[.ref x, b], []⟩) Q E s := by
  unfold Builtin.«object.__ne__»
  repeat (first
    | with_reducible refine wpAny_cRoomFor hu ?_
    | (refine wpAny_bind (m := callSpecialIfBound? (.ref x) (Str.ofString "__eq__") [b])
        (PySem.W.ifBound_K X I hs hf (wpAny_mono hcall (fun r s' hr => by
          obtain ⟨c, rfl, hq⟩ := hr
          repeat (first | exact hq | exact wpAny_pure hq | exact wpAny_truthy_bool hq | (refine wpAny_bind (m := truthy (.bool _)) (wpAny_truthy_bool ?_)) | wp_step)) fun _ _ e => e)))
    | wp_step)
theorem ne_K {prog : Program} {w : World} {A : Around} {E : Value → Shared → Prop} {K : Frag} {x C f : Addr} {ox : Obj} {od : Option Obj} {b tb : Value} {Q : Value → Shared → Prop} (hu : A.units + 1 < cLine) (X : K.In s.heap) (I : PySem.W.InstAt s.heap x ox C od)
    (hb : PySem.W.Looks (model prog w) s.heap (typeOf b) tb) (hn : PySem.W.notFirst K C tb = true) (hm : PySem.W.mroIn K C (.type "object") = some true) (hne : PySem.W.findIn K (.ref C) "__ne__" = some (some (.builtin "object.__ne__")))
    (hs : PySem.W.findIn K (.ref C) "__eq__" = some (some (.ref f))) (hf : PySem.W.isFn K (.ref f) = true)
    (h : wpAny (model prog w) A.in1 (call (.ref f) [.ref x, b]) (fun v s' => ∃ c, v = .bool c ∧ Q (.bool (!c)) s') E s) : wpAny (model prog w) A (richCompare .NotEq (.ref x) b) Q E s := by
  have one : wpAny (model prog w) A (tryCompare (.ref x) "__ne__" b) (fun r s' => ∃ v, r = some v ∧ Q v s') E s := by
    unfold tryCompare
    refine wpAny_bind (ifBound_objNe X I hne ?_)
    refine wpAny_call (codeAny_call_builtin F.cmp_object.ne.plain F.cmpEntry_ne (PySem.W.check_slot F.cmpKind_ne F.cmpSplit_ne (I.type.andThen (PySem.W.looks_mroIn X hm)) (F.cmpArgs_ne _ _) ?_))
    refine objNe_own (A := A.in1) X I hu hs hf (wpAny_mono h (fun v s' hv => ?_) fun _ _ e => e)
    obtain ⟨c, rfl, hq⟩ := hv
    exact ⟨c, rfl, wpAny_pure ⟨_, rfl, hq⟩⟩
  unfold richCompare
  simp only [oneThing_ref]
  refine wpAny_holding (wpAny_bind (wpAny_cRoomFor (Nat.lt_of_succ_lt hu) ?_))
  rw [cmpInfo_NotEq]
  dsimp only
  refine wpAny_bind (I.type.here (wpAny_bind (hb.here ?_)))
  split
  · rename_i q
    have e : PySem.W.subIn K tb (.ref C) = some false := by
      rcases Bool.or_eq_true_iff.mp hn with e | e
      · rw [beq_iff_eq.mp e] at q; simp at q
      · exact beq_iff_eq.mp e
    refine wpAny_bind ((PySem.W.looks_subIn X e).here ?_)
    simp only [Bool.false_eq_true, if_false]
    refine wpAny_bind (wpAny_mono one (fun r s' z => ?_) fun _ _ e => e)
    obtain ⟨v, rfl, hq⟩ := z
    exact wpAny_pure hq
  · refine wpAny_bind (wpAny_pure ?_)
    simp only [Bool.false_eq_true, if_false]
    refine wpAny_bind (wpAny_mono one (fun r s' z => ?_) fun _ _ e => e)
    obtain ⟨v, rfl, hq⟩ := z
    exact wpAny_pure hq
end
/-! ### rules -/
section
variable {X : Cx} {CX : CXT} {k : Nat} {f C : Addr} {fd : FuncData} {ps : List Str} {sp : Sp} {E : L2.St → XK} {a b : Expr} {ta tb : TE} {pos : Pos}
def tBO (r : L2.St → V → V → Hp → VK → Prop) (ta tb : TE) : TE := fun σ H Q => ta σ H fun x H1 => tb σ H1 fun y H2 => r σ x y H2 Q
def OpS (X : Cx) (op : CmpOp) (r : L2.St → V → V → Hp → VK → Prop) : Prop :=
  ∀ (pins : List (Addr × Obj)) (s : Shared) (σ : L2.St) (H : Hp) (x y : V) (v u : Value) (Q : VK), Inv X pins σ H s → RelV x v → RelV y u → r σ x y H Q → wpAny (model X.prog X.w) X.A (compareOp op v u) (EP X pins σ Q) X.xe s
theorem pe_BO {op : CmpOp} {r : L2.St → V → V → Hp → VK → Prop} (ho : OpS X op r) (h1 : PE X a ta) (h2 : PE X b tb) (hm : behindInMarks op b = false) : PE X (.Compare a [op] [b] pos) (tBO r ta tb) :=
  ⟨fun pins s σ H Q I h => wpAny_Compare1 (binT h1 h2 I h fun v u s2 x y H2 I2 rx ry q => ho pins s2 σ H2 x y v u Q I2 rx ry q) hm⟩
theorem pt_BO {op : CmpOp} {r : L2.St → V → V → Hp → VK → Prop} (ho : OpS X op r) (h1 : PE X a ta) (h2 : PE X b tb) (hm : behindInMarks op b = false) : PT X (.Compare a [op] [b] pos) (tB (tBO r ta tb)) := by
  refine ⟨fun pins s σ H Q I h => ?_⟩
  refine wpAny_isTrue_Compare1 (thn (h1.run pins s σ H _ I h) fun v s1 ⟨x, H1, I1, r1, q1⟩ => thn (h2.run pins s1 σ H1 _ I1 q1) fun u s2 ⟨y, H2, I2, r2, q2⟩ =>
    thn (ho pins s2 σ H2 x y v u _ I2 r1 r2 q2) fun c s3 ⟨z, H3, I3, r3, k, e, q3⟩ => ?_) hm
  subst e
  cases r3
  exact wpAny_truthy_bool ⟨H3, I3, q3⟩
/-- x op y by a def of x's class -/
def rCmpO (K : Frag) (C : Addr) (sp : Sp) (E : L2.St → XK) : L2.St → V → V → Hp → VK → Prop := fun σ x y H Q => ∃ a dx fs ty, x = .ref a ∧ H a = some (.ins C dx fs) ∧ TyX K H y ty ∧ PySem.W.notFirst K C ty = true ∧ sp [x, y] H Q (E σ)
theorem cmpO {op : CmpOp} (hop : ∀ a b, compareOp op a b = richCompare op a b) (D : Dun X.K C (cmpInfo op).2.1 f) (F : FnOk X.prog X.w X.K X.mg X.base CX k f fd ps sp) (hr : Room k X.A) (hb : Binds X.K fd ps []) (hx : ∀ σ, PassesAt CX X σ (E σ))
    {pins : List (Addr × Obj)} {σ : L2.St} {H : Hp} {s : Shared} {x y : V} {v u : Value} {Q : VK} (I : Inv X pins σ H s) (rx : RelV x v) (ry : RelV y u) (q : rCmpO X.K C sp E σ x y H Q) : wpAny (model X.prog X.w) X.A (compareOp op v u) (EP X pins σ Q) X.xe s := by
  obtain ⟨a, dx, fs, ty, rfl, ha, hty, hn, q⟩ := q
  obtain rfl : v = Value.ref a := rx
  obtain ⟨od, J⟩ := inst_of I ha
  obtain ⟨P, Z, p, _⟩ := kit_of I ry hty
  obtain ⟨m, hF⟩ := I.fr
  rw [hop]
  refine PySem.W.cmp_K (op := op) (tb := ty) hr.units0 hF I.ok.mod.kin J (Z.ty _ _ I.kIn p) hn D.at_ D.fn ?_
  refine wpAny_mono (run_ow (us := [.ref a, u]) (vs := [.ref a, y]) F hr I.env0 hb (hx σ) I (.cons rfl (.cons ry .nil)) q) (fun w s' z => ?_) fun _ _ x => x
  obtain ⟨z', H', I', rz, qz⟩ := z
  exact SlX.cmpback rz ⟨z', H', I', rz, qz⟩
theorem os_cmp {op : CmpOp} (hop : ∀ a b, compareOp op a b = richCompare op a b) (D : Dun X.K C (cmpInfo op).2.1 f) (F : FnOk X.prog X.w X.K X.mg X.base CX k f fd ps sp) (hr : Room k X.A) (hb : Binds X.K fd ps []) (hx : ∀ σ, PassesAt CX X σ (E σ)) : OpS X op (rCmpO X.K C sp E) :=
  fun pins s σ H x y v u Q I rx ry q => cmpO hop D F hr hb hx I rx ry q
/-- x != y by an own == -/
def rNeO (K : Frag) (C : Addr) (sp : Sp) (E : L2.St → XK) : L2.St → V → V → Hp → VK → Prop := fun σ x y H Q => ∃ a dx fs ty, x = .ref a ∧ H a = some (.ins C dx fs) ∧ TyX K H y ty ∧ PySem.W.notFirst K C ty = true ∧ sp [x, y] H (fun z H' => ∃ c, z = .bl c ∧ Q (.bl (!c)) H') (E σ)
theorem os_neO (D : Dun X.K C "__eq__" f) (hne : PySem.W.findIn X.K (.ref C) "__ne__" = some (some (.builtin "object.__ne__"))) (hmro : PySem.W.mroIn X.K C (.type "object") = some true) (F : FnOk X.prog X.w X.K X.mg X.base CX k f fd ps sp) (hr : Room (k + 1) X.A) (hb : Binds X.K fd ps []) (hx : ∀ σ, PassesAt CX X σ (E σ)) : OpS X .NotEq (rNeO X.K C sp E) := by
  intro pins s2 σ H2 x y v u Q I2 rx ry q
  obtain ⟨a, dx, fs, ty, rfl, ha, hty, hn, q⟩ := q
  obtain rfl : v = Value.ref a := rx
  obtain ⟨od, J⟩ := inst_of I2 ha
  obtain ⟨P, Z, p, _⟩ := kit_of I2 ry hty
  show wpAny _ _ (richCompare .NotEq _ _) _ _ _
  refine ne_K (tb := ty) (by have := hr.un; omega) I2.kIn J (Z.ty _ _ I2.kIn p) hn hmro hne D.at_ D.fn ?_
  refine wpAny_mono (run_ow (us := [.ref a, u]) (vs := [.ref a, y]) F hr.in1 I2.env0.in1 hb (hx σ) I2 (.cons rfl (.cons ry .nil)) q) (fun w s' z => ?_) fun _ _ x => x
  obtain ⟨z', H', I', rz, c, rfl, qz⟩ := z
  obtain rfl : w = Value.bool c := rz
  exact ⟨c, rfl, .bl (!c), H', I', rfl, qz⟩
/-- x in y by an own def of y's class -/
def rInO (C : Addr) (ng : Bool) (sp : Sp) (E : L2.St → XK) : L2.St → V → V → Hp → VK → Prop := fun σ x y H Q => ∃ a dx fs, y = .ref a ∧ H a = some (.ins C dx fs) ∧ sp [y, x] H (fun z H' => ∃ c, z = .bl c ∧ Q (.bl (if ng = true then !c else c)) H') (E σ)
theorem os_inO (D : Dun X.K C "__contains__" f) (F : FnOk X.prog X.w X.K X.mg X.base CX k f fd ps sp) (hr : Room k X.A) (hb : Binds X.K fd ps []) (hx : ∀ σ, PassesAt CX X σ (E σ)) : OpS X .In (rInO C false sp E) := by
  intro pins s2 σ H2 x y v u Q I2 rx ry q
  obtain ⟨a, dx, fs, rfl, ha, q⟩ := q
  obtain rfl : u = Value.ref a := ry
  obtain ⟨od, J⟩ := inst_of I2 ha
  obtain ⟨m, hF⟩ := I2.fr
  refine PySem.W.in_K hF I2.ok.mod.kin J D.at_ D.fn ?_
  refine wpAny_mono (run_ow (us := [.ref a, v]) (vs := [.ref a, x]) F hr I2.env0 hb (hx σ) I2 (.cons rfl (.cons rx .nil)) q) (fun w s' z => ?_) fun _ _ x => x
  obtain ⟨z', H', I', rz, c, rfl, qz⟩ := z
  obtain rfl : w = Value.bool c := rz
  exact wpAny_truthy_bool ⟨.bl c, H', I', rfl, qz⟩
theorem os_notInO (D : Dun X.K C "__contains__" f) (F : FnOk X.prog X.w X.K X.mg X.base CX k f fd ps sp) (hr : Room k X.A) (hb : Binds X.K fd ps []) (hx : ∀ σ, PassesAt CX X σ (E σ)) : OpS X .NotIn (rInO C true sp E) := by
  intro pins s2 σ H2 x y v u Q I2 rx ry q
  obtain ⟨a, dx, fs, rfl, ha, q⟩ := q
  obtain rfl : u = Value.ref a := ry
  obtain ⟨od, J⟩ := inst_of I2 ha
  obtain ⟨m, hF⟩ := I2.fr
  refine PySem.W.notIn_K hF I2.ok.mod.kin J D.at_ D.fn ?_
  refine wpAny_mono (run_ow (us := [.ref a, v]) (vs := [.ref a, x]) F hr I2.env0 hb (hx σ) I2 (.cons rfl (.cons rx .nil)) q) (fun w s' z => ?_) fun _ _ x => x
  obtain ⟨z', H', I', rz, c, rfl, qz⟩ := z
  obtain rfl : w = Value.bool c := rz
  exact wpAny_truthy_bool ⟨.bl (!c), H', I', rfl, qz⟩
/-- x[y] by an own def of x's class -/
def rIxO (C : Addr) (sp : Sp) (E : L2.St → XK) : L2.St → V → V → Hp → VK → Prop := fun σ x y H Q => ∃ a dx fs, x = .ref a ∧ H a = some (.ins C dx fs) ∧ sp [x, y] H Q (E σ)
theorem pe_ixO (D : Dun X.K C "__getitem__" f) (F : FnOk X.prog X.w X.K X.mg X.base CX k f fd ps sp) (hr : Room (k + 1) X.A) (hb : Binds X.K fd ps []) (hx : ∀ σ, PassesAt CX X σ (E σ)) (h1 : PE X a ta) (h2 : PE X b tb)
    (hsl : ∀ v i, subscripted b true v i = runValue (.builtin "lifetime.subscript" ⟨[v, i], []⟩) := by intro _ _; with_unfolding_all rfl) : PE X (.Subscript a b pos) (tBO (rIxO C sp E) ta tb) :=
  ⟨fun pins s σ H Q I h => Subscript_ (binT h1 h2 I h fun v u s2 x y H2 I2 rx ry q => by
    obtain ⟨a, dx, fs, rfl, ha, q⟩ := q
    obtain rfl : v = Value.ref a := rx
    obtain ⟨od, J⟩ := inst_of I2 ha
    obtain ⟨m, hF⟩ := I2.fr
    exact PySem.W.sub_K hF I2.ok.mod.kin J D.at_ D.fi D.fn (run_ow (us := [.ref a, u]) (vs := [.ref a, y]) F hr.in1 I2.env0.in1 hb (hx σ) I2 (.cons rfl (.cons ry .nil)) q) (hsl _ _))⟩
/-- len(x) by an own def -/
def rLenO (C : Addr) (sp : Sp) : List V → Hp → VK → Prop := fun xs H Q => ∃ a dx fs, xs = [.ref a] ∧ H a = some (.ins C dx fs) ∧ sp [.ref a] H (fun z H' => ∃ n : Int, z = .int n ∧ 0 ≤ n ∧ n < 2 ^ 63 ∧ Q z H') (fun _ _ _ => False)
theorem call_lenO (D : Dun X.K C "__len__" f) (F : FnOk X.prog X.w X.K X.mg X.base (L2.CX X.prog X.w) k f fd ps sp) (hr : Room (k + 1) X.A) (hb : Binds X.K fd ps []) : CallR X (.builtin "len") (rLenO C sp) := by
  intro pins s σ H xs us Q I r h
  obtain ⟨a, dx, fs, rfl, ha, q⟩ := h
  obtain ⟨u, rfl, ru⟩ := r.one
  obtain rfl : u = Value.ref a := ru
  obtain ⟨od, J⟩ := inst_of I ha
  obtain ⟨m, hF⟩ := I.fr
  refine PySem.W.len_K hF I.ok.mod.kin J D.at_ D.fn (wpAny_mono (run_ow (E := fun _ _ _ _ => False) (us := [.ref a]) (vs := [.ref a]) F hr.in1 I.env0.in1 hb (passAt takes0 σ) I (.cons rfl .nil) q) (fun w s' z => ?_) fun _ _ x => x)
  obtain ⟨z', H', I', rz, n, rfl, h0, h1, qz⟩ := z
  obtain ⟨t, rfl⟩ : ∃ t, w = Value.int n t := rz
  exact ⟨⟨h0, h1⟩, .int n, H', I'.tok _, ⟨_, rfl⟩, qz⟩
end
/-! ### evaluators -/
def okTY (okc : Nat → Bool) : TY → Bool
  | .bt _ => true
  | .cl c => okc c
def eCmpO (c : Nat) (okc : Nat → Bool) (cf : List Val → Hea → Res Val) (f1 f2 : En → Hea → Res Val) : En → Hea → Res Val := fun e h => (f1 e h).bind fun x h1 => (f2 e h1).bind fun y h2 => match insOf h2 x, tyY h2 y with
  | some (c', _), some t => if c' = c ∧ okTY okc t = true then cf [x, y] h2 else .stuck
  | _, _ => .stuck
def notR (r : Res Val) : Res Val := r.bind fun z h => match z with
  | .bl b => .ok (.bl (!b)) h
  | _ => .stuck
def eNeO (c : Nat) (okc : Nat → Bool) (cf : List Val → Hea → Res Val) (f1 f2 : En → Hea → Res Val) : En → Hea → Res Val := fun e h => (f1 e h).bind fun x h1 => (f2 e h1).bind fun y h2 => match insOf h2 x, tyY h2 y with
  | some (c', _), some t => if c' = c ∧ okTY okc t = true then notR (cf [x, y] h2) else .stuck
  | _, _ => .stuck
def blR (ng : Bool) (r : Res Val) : Res Val := r.bind fun z h => match z with
  | .bl b => .ok (.bl (if ng = true then !b else b)) h
  | _ => .stuck
def eInO (c : Nat) (ng : Bool) (cf : List Val → Hea → Res Val) (f1 f2 : En → Hea → Res Val) : En → Hea → Res Val := fun e h => (f1 e h).bind fun x h1 => (f2 e h1).bind fun y h2 => match insOf h2 y with
  | some (c', _) => if c' = c then blR ng (cf [y, x] h2) else .stuck
  | none => .stuck
def eIxO (c : Nat) (cf : List Val → Hea → Res Val) (f1 f2 : En → Hea → Res Val) : En → Hea → Res Val := fun e h => (f1 e h).bind fun x h1 => (f2 e h1).bind fun y h2 => match insOf h2 x with
  | some (c', _) => if c' = c then cf [x, y] h2 else .stuck
  | none => .stuck
def eLenO (c : Nat) (cf : List Val → Hea → Res Val) (f1 : En → Hea → Res Val) : En → Hea → Res Val := fun e h => (f1 e h).bind fun x h1 => match insOf h1 x with
  | some (c', _) => if c' = c then (noX (cf [x] h1)).bind fun z h2 => match z with
    | .int n => if 0 ≤ n ∧ n < 9223372036854775808 then .ok (.int n) h2 else .stuck
    | _ => .stuck
    else .stuck
  | none => .stuck
section
variable {T : Tb} {X : Cx} {W : WX} {f : Addr} {fd : FuncData} {ps : List Str} {k c : Nat} {cf : List Val → Hea → Res Val} {a b : Expr} {f1 f2 : En → Hea → Res Val} {pos p : Pos} {okc : Nat → Bool}
/-- the two operands -/
theorem two_imp {r : L2.St → V → V → Hp → VK → Prop} {k : Val → Val → Hea → Res Val} {σ : L2.St} {H : Hp} {Q : VK} (q : tE (sy T X) W (fun e h => (f1 e h).bind fun x h1 => (f2 e h1).bind fun y h2 => k x y h2) σ H Q)
    (w : ∀ ρ h x y H1 u v, Rel (sy T X) ρ h H1 → Rep (sy T X) ρ H1 x u → Rep (sy T X) ρ H1 y v → Aft (sy T X) ρ H1 (k x y h) Q (WE W σ) → r σ u v H1 Q) : tBO r (tE (sy T X) W f1) (tE (sy T X) W f2) σ H Q := by
  obtain ⟨ρ, e, h, R, E, a⟩ := q
  refine ⟨ρ, e, h, R, E, a.bind.mono fun u H1 ⟨ρ1, x, h1, s1, R1, r1, a1⟩ => ⟨ρ1, e, h1, R1, E.go s1, a1.bind.mono fun v H2 ⟨ρ2, y, h2, s2, R2, r2, a2⟩ => ?_⟩⟩
  exact w ρ2 h2 x y H2 u v R2 (r1.go s2) r2 a2
theorem cmpO_imp (hO : ∀ c', okc c' = true → OwnC X.K (T.ca c') ∧ PySem.W.notFirst X.K (T.ca c) (.ref (T.ca c')) = true) {σ : L2.St} {H : Hp} {Q : VK} (q : tE (sy T X) W (eCmpO c okc cf f1 f2) σ H Q) : tBO (rCmpO X.K (T.ca c) (spEv (sy T X) cf) (WE W)) (tE (sy T X) W f1) (tE (sy T X) W f2) σ H Q := two_imp (k := fun x y h2 => match insOf h2 x, tyY h2 y with
  | some (c', _), some t => if c' = c ∧ okTY okc t = true then cf [x, y] h2 else .stuck
  | _, _ => .stuck) q fun ρ h x y H1 u v R r1 r2 a => by
    split at a
    · rename_i c' fs t hx ht
      split at a
      · rename_i hc
        obtain ⟨rfl, hc⟩ := hc
        obtain ⟨p, dx, ps, rfl, hi, _⟩ := ins_of R r1 hx
        refine ⟨p, dx, ps, t.v (sy T X), rfl, hi, tyY_ok R r2 ht (fun c'' z => by subst z; exact (hO _ hc).1), ?_, ρ, h, _, R, .cons r1 (.cons r2 .nil), a⟩
        cases t with
        | bt kk => exact notFirst_bt kk
        | cl c'' => exact (hO _ hc).2
      · exact a.elim
    · exact a.elim
theorem se_cmpO {op : CmpOp} (hop : ∀ a b, compareOp op a b = richCompare op a b) (D : Dun X.K (T.ca c) (cmpInfo op).2.1 f) (hO : ∀ c', okc c' = true → OwnC X.K (T.ca c') ∧ PySem.W.notFirst X.K (T.ca c) (.ref (T.ca c')) = true) (F : FnOk X.prog X.w X.K X.mg X.base (L2.CX X.prog X.w) k f fd ps (spEv (sy T X) cf)) (hr : Room k X.A) (hb : Binds X.K fd ps []) (tk : Takes X W)
    (h1 : SE T X W a f1) (h2 : SE T X W b f2) (hm : behindInMarks op b = false) : SE T X W (.Compare a [op] [b] pos) (eCmpO c okc cf f1 f2) :=
  (pe_BO (os_cmp (E := WE W) hop D F hr hb (fun σ => passAt tk σ)) h1 h2 hm).imp fun σ H Q q => cmpO_imp hO q
theorem st_cmpO {op : CmpOp} (hop : ∀ a b, compareOp op a b = richCompare op a b) (D : Dun X.K (T.ca c) (cmpInfo op).2.1 f) (hO : ∀ c', okc c' = true → OwnC X.K (T.ca c') ∧ PySem.W.notFirst X.K (T.ca c) (.ref (T.ca c')) = true) (F : FnOk X.prog X.w X.K X.mg X.base (L2.CX X.prog X.w) k f fd ps (spEv (sy T X) cf)) (hr : Room k X.A) (hb : Binds X.K fd ps []) (tk : Takes X W)
    (h1 : SE T X W a f1) (h2 : SE T X W b f2) (hm : behindInMarks op b = false) : ST T X W (.Compare a [op] [b] pos) (eCmpO c okc cf f1 f2) :=
  (pt_BO (os_cmp (E := WE W) hop D F hr hb (fun σ => passAt tk σ)) h1 h2 hm).imp fun σ H Q q => cmpO_imp hO q
theorem neO_imp (hO : ∀ c', okc c' = true → OwnC X.K (T.ca c') ∧ PySem.W.notFirst X.K (T.ca c) (.ref (T.ca c')) = true) {σ : L2.St} {H : Hp} {Q : VK} (q : tE (sy T X) W (eNeO c okc cf f1 f2) σ H Q) : tBO (rNeO X.K (T.ca c) (spEv (sy T X) cf) (WE W)) (tE (sy T X) W f1) (tE (sy T X) W f2) σ H Q := two_imp (k := fun x y h2 => match insOf h2 x, tyY h2 y with
  | some (c', _), some t => if c' = c ∧ okTY okc t = true then notR (cf [x, y] h2) else .stuck
  | _, _ => .stuck) q fun ρ h x y H1 u v R r1 r2 a => by
    split at a
    · rename_i c' fs t hx ht
      split at a
      · rename_i hc
        obtain ⟨rfl, hc⟩ := hc
        obtain ⟨p, dx, ps, rfl, hi, _⟩ := ins_of R r1 hx
        refine ⟨p, dx, ps, t.v (sy T X), rfl, hi, tyY_ok R r2 ht (fun c'' z => by subst z; exact (hO _ hc).1), ?_, ρ, h, _, R, .cons r1 (.cons r2 .nil), ?_⟩
        · cases t with
          | bt kk => exact notFirst_bt kk
          | cl c'' => exact (hO _ hc).2
        · unfold notR at a
          refine a.bind.mono fun z H2 ⟨ρ2, d, h2, s2, R2, r3, a2⟩ => ?_
          split at a2
          · obtain rfl := r3.bl_
            exact ⟨_, rfl, a2.same R2 (.bl _)⟩
          · exact a2.elim
      · exact a.elim
    · exact a.elim
theorem se_neO (D : Dun X.K (T.ca c) "__eq__" f) (hne : PySem.W.findIn X.K (.ref (T.ca c)) "__ne__" = some (some (.builtin "object.__ne__"))) (hmro : PySem.W.mroIn X.K (T.ca c) (.type "object") = some true) (hO : ∀ c', okc c' = true → OwnC X.K (T.ca c') ∧ PySem.W.notFirst X.K (T.ca c) (.ref (T.ca c')) = true) (F : FnOk X.prog X.w X.K X.mg X.base (L2.CX X.prog X.w) k f fd ps (spEv (sy T X) cf)) (hr : Room (k + 1) X.A) (hb : Binds X.K fd ps []) (tk : Takes X W)
    (h1 : SE T X W a f1) (h2 : SE T X W b f2) (hm : behindInMarks .NotEq b = false) : SE T X W (.Compare a [.NotEq] [b] pos) (eNeO c okc cf f1 f2) :=
  (pe_BO (os_neO (E := WE W) D hne hmro F hr hb (fun σ => passAt tk σ)) h1 h2 hm).imp fun σ H Q q => neO_imp hO q
theorem st_neO (D : Dun X.K (T.ca c) "__eq__" f) (hne : PySem.W.findIn X.K (.ref (T.ca c)) "__ne__" = some (some (.builtin "object.__ne__"))) (hmro : PySem.W.mroIn X.K (T.ca c) (.type "object") = some true) (hO : ∀ c', okc c' = true → OwnC X.K (T.ca c') ∧ PySem.W.notFirst X.K (T.ca c) (.ref (T.ca c')) = true) (F : FnOk X.prog X.w X.K X.mg X.base (L2.CX X.prog X.w) k f fd ps (spEv (sy T X) cf)) (hr : Room (k + 1) X.A) (hb : Binds X.K fd ps []) (tk : Takes X W)
    (h1 : SE T X W a f1) (h2 : SE T X W b f2) (hm : behindInMarks .NotEq b = false) : ST T X W (.Compare a [.NotEq] [b] pos) (eNeO c okc cf f1 f2) :=
  (pt_BO (os_neO (E := WE W) D hne hmro F hr hb (fun σ => passAt tk σ)) h1 h2 hm).imp fun σ H Q q => neO_imp hO q
theorem blR_imp {ρ : Own} {H : Hp} {ng : Bool} {r : Res Val} {Q : VK} {W : XK} {S : Sy} (a : Aft S ρ H (blR ng r) Q W) : Aft S ρ H r (fun z H' => ∃ c, z = .bl c ∧ Q (.bl (if ng = true then !c else c)) H') W := by
  unfold blR at a
  refine a.bind.mono fun z H2 ⟨ρ2, d, h2, s2, R2, r3, a2⟩ => ?_
  split at a2
  · obtain rfl := r3.bl_
    exact ⟨_, rfl, a2.same R2 (.bl _)⟩
  · exact a2.elim
theorem inO_imp  {σ : L2.St} {H : Hp} {Q : VK} (q : tE (sy T X) W (eInO c false cf f1 f2) σ H Q) : tBO (rInO (T.ca c) false (spEv (sy T X) cf) (WE W)) (tE (sy T X) W f1) (tE (sy T X) W f2) σ H Q := two_imp (k := fun x y h2 => match insOf h2 y with
  | some (c', _) => if c' = c then blR false (cf [y, x] h2) else .stuck
  | none => .stuck) q fun ρ h x y H1 u v R r1 r2 a => by
    split at a
    · rename_i c' fs hx
      split at a
      · rename_i hc
        subst hc
        obtain ⟨p, dx, ps, rfl, hi, _⟩ := ins_of R r2 hx
        exact ⟨p, dx, ps, rfl, hi, ρ, h, _, R, .cons r2 (.cons r1 .nil), blR_imp a⟩
      · exact a.elim
    · exact a.elim
theorem se_inO (D : Dun X.K (T.ca c) "__contains__" f) (F : FnOk X.prog X.w X.K X.mg X.base (L2.CX X.prog X.w) k f fd ps (spEv (sy T X) cf)) (hr : Room k X.A) (hb : Binds X.K fd ps []) (tk : Takes X W)
    (h1 : SE T X W a f1) (h2 : SE T X W b f2) (hm : behindInMarks .In b = false) : SE T X W (.Compare a [.In] [b] pos) (eInO c false cf f1 f2) :=
  (pe_BO (os_inO (E := WE W) D F hr hb (fun σ => passAt tk σ)) h1 h2 hm).imp fun σ H Q q => inO_imp  q
theorem st_inO (D : Dun X.K (T.ca c) "__contains__" f) (F : FnOk X.prog X.w X.K X.mg X.base (L2.CX X.prog X.w) k f fd ps (spEv (sy T X) cf)) (hr : Room k X.A) (hb : Binds X.K fd ps []) (tk : Takes X W)
    (h1 : SE T X W a f1) (h2 : SE T X W b f2) (hm : behindInMarks .In b = false) : ST T X W (.Compare a [.In] [b] pos) (eInO c false cf f1 f2) :=
  (pt_BO (os_inO (E := WE W) D F hr hb (fun σ => passAt tk σ)) h1 h2 hm).imp fun σ H Q q => inO_imp  q
theorem notInO_imp  {σ : L2.St} {H : Hp} {Q : VK} (q : tE (sy T X) W (eInO c true cf f1 f2) σ H Q) : tBO (rInO (T.ca c) true (spEv (sy T X) cf) (WE W)) (tE (sy T X) W f1) (tE (sy T X) W f2) σ H Q := two_imp (k := fun x y h2 => match insOf h2 y with
  | some (c', _) => if c' = c then blR true (cf [y, x] h2) else .stuck
  | none => .stuck) q fun ρ h x y H1 u v R r1 r2 a => by
    split at a
    · rename_i c' fs hx
      split at a
      · rename_i hc
        subst hc
        obtain ⟨p, dx, ps, rfl, hi, _⟩ := ins_of R r2 hx
        exact ⟨p, dx, ps, rfl, hi, ρ, h, _, R, .cons r2 (.cons r1 .nil), blR_imp a⟩
      · exact a.elim
    · exact a.elim
theorem se_notInO (D : Dun X.K (T.ca c) "__contains__" f) (F : FnOk X.prog X.w X.K X.mg X.base (L2.CX X.prog X.w) k f fd ps (spEv (sy T X) cf)) (hr : Room k X.A) (hb : Binds X.K fd ps []) (tk : Takes X W)
    (h1 : SE T X W a f1) (h2 : SE T X W b f2) (hm : behindInMarks .NotIn b = false) : SE T X W (.Compare a [.NotIn] [b] pos) (eInO c true cf f1 f2) :=
  (pe_BO (os_notInO (E := WE W) D F hr hb (fun σ => passAt tk σ)) h1 h2 hm).imp fun σ H Q q => notInO_imp  q
theorem st_notInO (D : Dun X.K (T.ca c) "__contains__" f) (F : FnOk X.prog X.w X.K X.mg X.base (L2.CX X.prog X.w) k f fd ps (spEv (sy T X) cf)) (hr : Room k X.A) (hb : Binds X.K fd ps []) (tk : Takes X W)
    (h1 : SE T X W a f1) (h2 : SE T X W b f2) (hm : behindInMarks .NotIn b = false) : ST T X W (.Compare a [.NotIn] [b] pos) (eInO c true cf f1 f2) :=
  (pt_BO (os_notInO (E := WE W) D F hr hb (fun σ => passAt tk σ)) h1 h2 hm).imp fun σ H Q q => notInO_imp  q
theorem se_ixO (D : Dun X.K (T.ca c) "__getitem__" f) (F : FnOk X.prog X.w X.K X.mg X.base (L2.CX X.prog X.w) k f fd ps (spEv (sy T X) cf)) (hr : Room (k + 1) X.A) (hb : Binds X.K fd ps []) (tk : Takes X W)
    (h1 : SE T X W a f1) (h2 : SE T X W b f2) (hsl : ∀ v i, subscripted b true v i = runValue (.builtin "lifetime.subscript" ⟨[v, i], []⟩) := by intro _ _; with_unfolding_all rfl) : SE T X W (.Subscript a b pos) (eIxO c cf f1 f2) :=
  (pe_ixO (E := WE W) D F hr hb (fun σ => passAt tk σ) h1 h2 hsl).imp fun σ H Q q => two_imp (k := fun x y h2 => match insOf h2 x with
  | some (c', _) => if c' = c then cf [x, y] h2 else .stuck
  | none => .stuck) q fun ρ h x y H1 u v R r1 r2 a => by
    split at a
    · rename_i c' fs hx
      split at a
      · rename_i hc
        subst hc
        obtain ⟨p, dx, ps, rfl, hi, _⟩ := ins_of R r1 hx
        exact ⟨p, dx, ps, rfl, hi, ρ, h, _, R, .cons r1 (.cons r2 .nil), a⟩
      · exact a.elim
    · exact a.elim
theorem Aft.noX' {S : Sy} {ρ : Own} {H : Hp} {r : Res Val} {k : Val → Hea → Res Val} {Q : VK} {W : XK} (a : Aft S ρ H ((Lad.noX r).bind k) Q W) : ∃ d h1, r = .ok d h1 ∧ Aft S ρ H (k d h1) Q W := by
  cases r with
  | ok d h => exact ⟨d, h, rfl, a⟩
  | exc c d h => exact a.elim
  | stuck => exact a.elim
theorem se_lenO (D : Dun X.K (T.ca c) "__len__" f) (F : FnOk X.prog X.w X.K X.mg X.base (L2.CX X.prog X.w) k f fd ps (spEv (sy T X) cf)) (hr : Room (k + 1) X.A) (hb : Binds X.K fd ps []) (hm : X.mg "len" = none) (h1 : SE T X W a f1) (hg : Gl X "len" := by rfl)
    (he : starEach [a] X.env = (false, eval a X.env) :: starEach [] X.env := by rfl) : SE T X W (.Call (.Name "len" p) [a] [] pos) (eLenO c cf f1) :=
  (pe_callB (call_lenO D F hr hb) hg hm (by decide +kernel) (pa_cons h1 pa_nil he) (by decide) (by decide) he rfl).imp fun σ H Q q => by
    obtain ⟨ρ, e, h, R, E, a⟩ := q
    unfold eLenO at a
    refine ⟨ρ, e, h, R, E, a.bind.mono fun v H1 ⟨ρ1, d, h1, s, R1, r1, a1⟩ => ?_⟩
    split at a1
    · rename_i c' fs hx
      split at a1
      · rename_i hc
        subst hc
        obtain ⟨p, dx, ps, rfl, hi, _⟩ := ins_of R1 r1 hx
        obtain ⟨z, h2, ez, a2⟩ := a1.noX'
        refine ⟨p, dx, ps, rfl, hi, ρ1, h1, _, R1, .cons r1 .nil, ?_⟩
        rw [ez]
        refine fun ρ2 u H2 s2 R2 r2 => ?_
        split at a2
        · split at a2
          · rename_i n hn
            obtain rfl := r2.int_
            exact ⟨n, rfl, hn.1, by have := hn.2; omega, a2 ρ2 _ H2 s2 R2 r2⟩
          · exact a2.elim
        · exact a2.elim
      · exact a1.elim
    · exact a1.elim
end
end Lad
end
/-! ## LadDic -/
section
set_option maxRecDepth 100000
set_option maxHeartbeats 2000000
namespace Lad
open PySem L2
/-! ### {} -/
def eD0 : En → Hea → Res Val := fun _ h => .ok (.dic false [] []) h
section
variable {T : Tb} {X : Cx} {W : WX} {pos : Pos}
theorem se_d0 : SE T X W (.Dict [] [] pos) eD0 := pe_dnewK.imp fun σ H Q q => by
  obtain ⟨ρ, e, h, R, E, a⟩ := q
  intro p n
  exact a ρ (.ref p) _ (.side n) (R.side n) (.dicK (R.fz n) upd_same rfl rfl .nil)
end
end Lad
end
/-! ## LadPl -/
section
set_option maxRecDepth 10000
namespace Lad
open PySem L2
/-! ### equations for running evaluators by hand -/
section
variable (f g f1 f2 f3 : En → Hea → Res Val) (s s1 s2 : En → Hea → SRes) (l l2 : En → Hea → Res (List Val)) (e : En) (h : Hea)
@[simp] theorem ap_seq : sSeq s1 s2 e h = match s1 e h with | .nx e1 h1 => s2 e1 h1 | r => r := rfl
@[simp] theorem ap_nil : sNil e h = .nx e h := rfl
@[simp] theorem ap_set (i) : sSet i f e h = ofR (f e h) e fun d h1 => .nx (e.set i (some d)) h1 := rfl
@[simp] theorem ap_ret : sRet f e h = ofR (f e h) e fun d h1 => .rt d h1 := rfl
@[simp] theorem ap_retN : sRetN e h = .rt .non h := rfl
@[simp] theorem ap_ex : sEx f e h = ofR (f e h) e fun _ h1 => .nx e h1 := rfl
@[simp] theorem ap_if : sIf f s1 s2 e h = ofR (f e h) e fun d h1 => match d with | .bl true => s1 e h1 | .bl false => s2 e h1 | _ => .stuck := rfl
@[simp] theorem ap_par (is) : sPar is l e h = ofR (l e h) e fun ds h1 => match setAll is ds e with | some e1 => .nx e1 h1 | none => .stuck := rfl
@[simp] theorem ap_asg (b) : sAsg b f e h = ofR (f e h) e fun d h1 => match b d e with | some e1 => .nx e1 h1 | none => .stuck := rfl
@[simp] theorem ap_gT (is xs) : gT is (.tup xs) e = setAll is xs e := rfl
@[simp] theorem ap_gN (i v) : gN i v e = some (e.set i (some v)) := rfl
@[simp] theorem ap_all0 : setAll [] [] e = some e := rfl
@[simp] theorem ap_all1 (i is v vs) : setAll (i :: is) (v :: vs) e = setAll is vs (e.set i (some v)) := rfl
@[simp] theorem ap_ofOk {α : Type} (a : α) (k : α → Hea → SRes) : ofR (.ok a h) e k = k a h := rfl
@[simp] theorem ap_ofExc {α : Type} (c d) (k : α → Hea → SRes) : ofR (.exc c d h) e k = .exc c d e h := rfl
@[simp] theorem ap_bindOk {α β : Type} (a : α) (k : α → Hea → Res β) : (Res.ok a h).bind k = k a h := rfl
@[simp] theorem ap_bindExc {α β : Type} (c d) (k : α → Hea → Res β) : (Res.exc c d h : Res α).bind k = .exc c d h := rfl
@[simp] theorem ap_var (i) : eVar i e h = match e[i]? with | some (some d) => .ok d h | _ => .stuck := rfl
@[simp] theorem ap_c (d) : eC d e h = .ok d h := rfl
@[simp] theorem ap_bin (o) : eBin o f1 f2 e h = (f1 e h).bind fun x h1 => (f2 e h1).bind fun y h2 => opt (o h2 x y) h2 := rfl
@[simp] theorem ap_un (o) : eUn o f e h = (f e h).bind fun x h1 => opt (o h1 x) h1 := rfl
@[simp] theorem ap_and : eAnd f1 f2 e h = (f1 e h).bind fun x h1 => match x with | .bl true => f2 e h1 | .bl false => .ok (.bl false) h1 | _ => .stuck := rfl
@[simp] theorem ap_or : eOr f1 f2 e h = (f1 e h).bind fun x h1 => match x with | .bl true => .ok (.bl true) h1 | .bl false => f2 e h1 | _ => .stuck := rfl
@[simp] theorem ap_eif : eIf f1 f2 f3 e h = (f1 e h).bind fun x h1 => match x with | .bl true => f2 e h1 | .bl false => f3 e h1 | _ => .stuck := rfl
@[simp] theorem ap_anil : aNil e h = .ok [] h := rfl
@[simp] theorem ap_acons : aCons f l e h = (f e h).bind fun x h1 => (l e h1).bind fun xs h2 => .ok (x :: xs) h2 := rfl
@[simp] theorem ap_cb (o) : eCB o l e h = (l e h).bind fun ds h1 => opt (o h1 ds) h1 := rfl
@[simp] theorem ap_call (cf) : eCall cf l e h = (l e h).bind cf := rfl
@[simp] theorem ap_it (o) : eIt o f e h = (f e h).bind fun d h1 => match itemsOf h1 d with | some xs => opt (o xs) h1 | none => .stuck := rfl
@[simp] theorem ap_itL (o) : eItL o l e h = (l e h).bind fun xs h1 => opt (o xs) h1 := rfl
@[simp] theorem ap_tup : eTup l e h = (l e h).bind fun xs h1 => if xs.length ≤ 16777216 then .ok (.tup xs) h1 else .stuck := rfl
@[simp] theorem ap_disp : lDisp l e h = (l e h).bind fun xs h1 => if xs.length ≤ 16777216 then .ok xs h1 else .stuck := rfl
@[simp] theorem ap_new : eNew l e h = (l e h).bind fun xs h1 => .ok (.ref h1.length) (h1 ++ [.lst xs]) := rfl
@[simp] theorem ap_chain (o o') : eChain o o' f1 f2 f3 e h = (f1 e h).bind fun x h1 => (f2 e h1).bind fun y h2 => match o h2 x y with | some (.bl true) => (f3 e h2).bind fun z h3 => opt (o' h3 y z) h3 | some (.bl false) => .ok (.bl false) h2 | _ => .stuck := rfl
@[simp] theorem ap_optS (d) : opt (some d) h = .ok d h := rfl
@[simp] theorem ap_raise (c) : sRaise c f e h = ofR (f e h) e fun d h1 => .exc c d e h1 := rfl
@[simp] theorem ap_yes : eYes e h = .ok (.bl true) h := rfl
@[simp] theorem ap_noX {α : Type} (a : α) : noX (.ok a h) = .ok a h := rfl
/-! operators -/
@[simp] theorem op_add (a b) : oAdd h (.int a) (.int b) = some (.int (a + b)) := rfl
@[simp] theorem op_sub (a b) : oSub h (.int a) (.int b) = some (.int (a - b)) := rfl
@[simp] theorem op_mul (a b) : oMul h (.int a) (.int b) = if mulOk a b = true then some (.int (a * b)) else none := rfl
@[simp] theorem op_div (a b) : oDiv h (.int a) (.int b) = if b ≠ 0 ∧ b.natAbs.log2 < 9000 then some (.int (a.fdiv b)) else none := rfl
@[simp] theorem op_mod (a b) : oMod h (.int a) (.int b) = if b ≠ 0 then some (.int (a.fmod b)) else none := rfl
@[simp] theorem op_neg (a) : oNeg h (.int a) = some (.int (-a)) := rfl
@[simp] theorem op_lt (a b) : oLt h (.int a) (.int b) = some (.bl (decide (a < b))) := rfl
@[simp] theorem op_le (a b) : oLe h (.int a) (.int b) = some (.bl (decide (a ≤ b))) := rfl
@[simp] theorem op_gt (a b) : oGt h (.int a) (.int b) = some (.bl (decide (b < a))) := rfl
@[simp] theorem op_ge (a b) : oGe h (.int a) (.int b) = some (.bl (decide (b ≤ a))) := rfl
@[simp] theorem op_not (b) : oNot h (.bl b) = some (.bl (!b)) := rfl
@[simp] theorem op_isb (a b) : oIs h (.bl a) (.bl b) = some (.bl (decide (a = b))) := rfl
@[simp] theorem op_isnb (a b) : oIsNot h (.bl a) (.bl b) = some (.bl (!decide (a = b))) := rfl
@[simp] theorem g_abs' (a) : gAbs h [.int a] = some (.int (a.natAbs : Int)) := by
  show some (Val.int (if a < 0 then -a else a)) = _
  congr 2
  split <;> omega
@[simp] theorem g_int' (a) : gInt h [.int a] = some (.int a) := rfl
@[simp] theorem g_intb (a) : gInt h [.bl a] = some (.int (if a then 1 else 0)) := rfl
@[simp] theorem g_len' (xs) : gLen xs = some (.int xs.length) := rfl
@[simp] theorem it_tup (xs) : itemsOf h (.tup xs) = some xs := rfl
@[simp] theorem it_ref (i) : itemsOf h (.ref i) = lstAt h i := rfl
theorem bl_beq (a b : Bool) : PyData.eqv (.bool a) (.bool b) = (a == b) := by unfold PyData.eqv; rfl
@[simp] theorem eq_int (a b : Int) : eqB h (.int a) (.int b) = some (decide (a = b)) := by
  unfold eqB
  simp only [toD]
  rw [if_pos ⟨rfl, rfl⟩]
  simp [PyData.eqv]
  rfl
@[simp] theorem eq_bl (a b : Bool) : eqB h (.bl a) (.bl b) = some (decide (a = b)) := by
  unfold eqB
  simp only [toD]
  rw [if_pos ⟨rfl, rfl⟩]
  cases a <;> cases b <;> rfl
@[simp] theorem eq_tup2 (a b c d : Int) : eqB h (.tup [.int a, .int b]) (.tup [.int c, .int d]) = some (decide (a = c ∧ b = d)) := by
  unfold eqB
  simp only [toD, mapO]
  rw [if_pos ⟨rfl, rfl⟩]
  simp only [PyData.eqv, PyData.eqvAll, Bool.and_true]
  by_cases h1 : a = c <;> by_cases h2 : b = d <;> simp [h1, h2]
@[simp] theorem op_eq (a b) : oEq h a b = (eqB h a b).map .bl := rfl
@[simp] theorem op_ne (a b) : oNe h a b = (eqB h a b).map fun c => .bl (!c) := rfl
@[simp] theorem op_ix0 (a b : Val) : oIx h (.tup [a, b]) (.int 0) = some a := rfl
@[simp] theorem op_ix1 (a b : Val) : oIx h (.tup [a, b]) (.int 1) = some b := rfl
end
/-! ### sizes -/
theorem log2_lt {i : Int} {k : Nat} (h : i.natAbs < 2 ^ k) (hk : 0 < k) : i.natAbs.log2 < k := by
  by_cases hz : i.natAbs = 0
  · rw [hz]; simpa using hk
  · exact (Nat.log2_lt hz).mpr h
theorem mulOk_of {i j : Int} (h1 : i.natAbs < 2 ^ 400000) (h2 : j.natAbs < 2 ^ 400000) : mulOk i j = true := by
  unfold mulOk
  have a := log2_lt h1 (by decide)
  have b := log2_lt h2 (by decide)
  rw [Bool.or_eq_true]
  right
  exact decide_eq_true (by omega)
theorem mulOk_l {i j : Int} (h : i.natAbs < 2 ^ 64) : mulOk i j = true := by
  unfold mulOk
  rw [Bool.or_eq_true]
  left
  exact decide_eq_true (.inl (by omega))
theorem mulOk_r {i j : Int} (h : j.natAbs < 2 ^ 64) : mulOk i j = true := by
  unfold mulOk
  rw [Bool.or_eq_true]
  left
  exact decide_eq_true (.inr (by omega))
/-! ### ends of calls -/
@[simp] theorem fin_same (h : Hea) (d : Val) : fin h d h = .ok d h := by unfold fin; rw [if_pos rfl]
@[simp] theorem finK_same (h : Hea) (d : Val) : finK h d h = .ok d h := by unfold finK; rw [if_pos rfl]
theorem fin_len {h h' : Hea} {d : Val} (hl : h'.length = h.length) : fin h d h' = .ok d h' := by unfold fin; rw [if_pos hl]
theorem run_rt {fn : Hea → Val → Hea → Res Val} {np ns : Nat} {b : En → Hea → SRes} {ds : List Val} {h h' : Hea} {d : Val} (hl : ds.length = np) (e : b (startE ns ds) h = .rt d h') : runG fn np ns b ds h = fn h d h' := by unfold runG; rw [if_pos hl, e]
theorem run_nx {fn : Hea → Val → Hea → Res Val} {np ns : Nat} {b : En → Hea → SRes} {ds : List Val} {h h' : Hea} {e' : En} (hl : ds.length = np) (e : b (startE ns ds) h = .nx e' h') : runG fn np ns b ds h = fn h .non h' := by unfold runG; rw [if_pos hl, e]
theorem run_exc {fn : Hea → Val → Hea → Res Val} {np ns c : Nat} {b : En → Hea → SRes} {ds : List Val} {h : Hea} {e' : En} {d : Val} (hl : ds.length = np) (e : b (startE ns ds) h = .exc c d e' h) : runG fn np ns b ds h = .exc c d h := by
  unfold runG
  rw [if_pos hl, e]
  simp
/-! ### statements, one behind the other -/
section
variable {f : En → Hea → Res Val} {l : En → Hea → Res (List Val)} {s s1 s2 : En → Hea → SRes} {e e1 : En} {h h1 : Hea} {d : Val} {ds : List Val} {r : SRes}
theorem seq_nx (a : s1 e h = .nx e1 h1) (b : s2 e1 h1 = r) : sSeq s1 s2 e h = r := by simp [a, b]
theorem seq_if_no (a : f e h = .ok (.bl false) h1) (b : s2 e h1 = r) : sSeq (sIf f s1 sNil) s2 e h = r := by simp [a, b]
theorem if_no (a : f e h = .ok (.bl false) h1) : sIf f s1 sNil e h = .nx e h1 := by simp [a]
theorem if_yes (a : f e h = .ok (.bl true) h1) (b : s1 e h1 = r) : sIf f s1 s2 e h = r := by simp [a, b]
theorem seq_set {i : Nat} (a : f e h = .ok d h1) (b : s2 (e.set i (some d)) h1 = r) : sSeq (sSet i f) s2 e h = r := by simp [a, b]
theorem ret_ok (a : f e h = .ok d h1) : sRet f e h = .rt d h1 := by simp [a]
end
/-! ### loops over lists that stand -/
def forL (b : Val → En → Option En) (body : En → Hea → SRes) : List Val → En → Hea → SRes
  | [], e, h => .nx e h
  | v :: vs, e, h => match b v e with
    | some e1 => match body e1 h with
      | .nx e2 h2 => forL b body vs e2 h2
      | .ct e2 h2 => forL b body vs e2 h2
      | .bk e2 h2 => .nx e2 h2
      | r => r
    | none => .stuck
def forKL (gc : En → Hea → En × Hea) (b : Val → En → Option En) (body : En → Hea → SRes) : List Val → En → Hea → SRes
  | [], e, h => .nx e h
  | v :: vs, e, h => match b v e with
    | some e1 => match body e1 h with
      | .nx e2 h2 => forKL gc b body vs (gc e2 h2).1 (gc e2 h2).2
      | .ct e2 h2 => forKL gc b body vs (gc e2 h2).1 (gc e2 h2).2
      | .bk e2 h2 => .nx e2 h2
      | r => r
    | none => .stuck
theorem fix_item (xs : List Val) {k : Nat} (hk : k ≤ xs.length) (h : Hea) : (srcFix xs).item k h = some xs[k]? := by
  show (if k ≤ xs.length then some xs[k]? else none) = _
  rw [if_pos hk]
theorem forG_fix (b : Val → En → Option En) (body : En → Hea → SRes) (xs : List Val) : ∀ (m k : Nat) (e : En) (h : Hea), k + m = xs.length + 1 → 0 < m → forG (srcFix xs).item b body m k e h = forL b body (xs.drop k) e h := by
  intro m
  induction m with
  | zero => intro k e h hm h0; omega
  | succ m ih =>
    intro k e h hm _
    unfold forG
    rw [fix_item xs (by omega)]
    by_cases hk : k < xs.length
    · rw [List.getElem?_eq_getElem hk, List.drop_eq_getElem_cons hk]
      unfold forL
      dsimp only
      cases b xs[k] e with
      | none => rfl
      | some e1 =>
        dsimp only
        cases body e1 h with
        | nx e2 h2 => exact ih (k + 1) e2 h2 (by omega) (by omega)
        | ct e2 h2 => exact ih (k + 1) e2 h2 (by omega) (by omega)
        | _ => rfl
    · rw [List.getElem?_eq_none_iff.mpr (by omega), List.drop_eq_nil_of_le (by omega)]
      rfl
theorem forK_fix (gc : En → Hea → En × Hea) (b : Val → En → Option En) (body : En → Hea → SRes) (xs : List Val) : ∀ (m k : Nat) (e : En) (h : Hea), k + m = xs.length + 1 → 0 < m → forK gc (srcFix xs).item b body m k e h = forKL gc b body (xs.drop k) e h := by
  intro m
  induction m with
  | zero => intro k e h hm h0; omega
  | succ m ih =>
    intro k e h hm _
    unfold forK
    rw [fix_item xs (by omega)]
    by_cases hk : k < xs.length
    · rw [List.getElem?_eq_getElem hk, List.drop_eq_getElem_cons hk]
      unfold forKL
      dsimp only
      cases b xs[k] e with
      | none => rfl
      | some e1 =>
        dsimp only
        cases body e1 h with
        | nx e2 h2 => exact ih (k + 1) _ _ (by omega) (by omega)
        | ct e2 h2 => exact ih (k + 1) _ _ (by omega) (by omega)
        | _ => rfl
    · rw [List.getElem?_eq_none_iff.mpr (by omega), List.drop_eq_nil_of_le (by omega)]
      rfl
section
variable {src : En → Hea → Res Src} {b : Val → En → Option En} {body : En → Hea → SRes} {e : En} {h h1 : Hea} {xs : List Val} {dead : List Nat}
theorem for_eq (a : src e h = .ok (srcFix xs) h1) : sFor src b body e h = forL b body xs e h1 := by
  unfold sFor
  rw [a]
  show forG (srcFix xs).item b body (xs.length + 1) 0 e h1 = _
  rw [forG_fix b body xs (xs.length + 1) 0 e h1 (by omega) (by omega)]
  rfl
theorem forK_eq (a : src e h = .ok (srcFix xs) h1) : sForK dead src b body e h = forKL (gcN dead h1.length) b body xs e h1 := by
  unfold sForK
  rw [a]
  show forK _ (srcFix xs).item b body (xs.length + 1) 0 e h1 = _
  rw [forK_fix _ b body xs (xs.length + 1) 0 e h1 (by omega) (by omega)]
  rfl
/-- each turn ends as it began -/
theorem forKL_const {gc : En → Hea → En × Hea} (w : ∀ v ∈ xs, ∃ e1 e2 h2, b v e = some e1 ∧ body e1 h = .nx e2 h2 ∧ gc e2 h2 = (e, h)) : forKL gc b body xs e h = .nx e h := by
  induction xs with
  | nil => rfl
  | cons v vs ih =>
    obtain ⟨e1, e2, h2, a1, a2, a3⟩ := w v List.mem_cons_self
    unfold forKL
    simp only [a1, a2, a3]
    exact ih fun u hu => w u (List.mem_cons_of_mem _ hu)
/-- an invariant -/
theorem forL_all {I : En → Hea → Prop} : ∀ {xs : List Val} (w : ∀ v ∈ xs, ∀ e h, I e h → ∃ e1 e2 h2, b v e = some e1 ∧ body e1 h = .nx e2 h2 ∧ I e2 h2) (e : En) (h : Hea), I e h → ∃ e2 h2, forL b body xs e h = .nx e2 h2 ∧ I e2 h2
  | [], _, e, h, i => ⟨e, h, rfl, i⟩
  | v :: vs, w, e, h, i => by
    obtain ⟨e1, e2, h2, a1, a2, i2⟩ := w v List.mem_cons_self e h i
    obtain ⟨e3, h3, a3, i3⟩ := forL_all (fun u hu => w u (List.mem_cons_of_mem _ hu)) e2 h2 i2
    refine ⟨e3, h3, ?_, i3⟩
    unfold forL
    simp only [a1, a2]
    exact a3
/-- the turns one by one -/
theorem forL_fold {F : En → Val → En} {I : En → Prop} : ∀ {xs : List Val} (w : ∀ v ∈ xs, ∀ e, I e → I (F e v) ∧ ∃ e1, b v e = some e1 ∧ body e1 h = .nx (F e v) h) (e : En), I e → forL b body xs e h = .nx (xs.foldl F e) h
  | [], _, e, i => rfl
  | v :: vs, w, e, i => by
    obtain ⟨i2, e1, a1, a2⟩ := w v List.mem_cons_self e i
    unfold forL
    simp only [a1, a2]
    exact forL_fold (fun u hu => w u (List.mem_cons_of_mem _ hu)) _ i2
end
/-! ### comprehensions over lists that stand -/
def compL (b : Val → En → Option En) (tt f : En → Hea → Res Val) (e0 : En) : List Val → Hea → Res (List Val)
  | [], h => .ok [] h
  | v :: vs, h => match b v e0 with
    | some e1 => (noX (tt e1 h)).bind fun c h1 => match c with
      | .bl true => (noX (f e1 h1)).bind fun y h2 => (compL b tt f e0 vs h2).bind fun ys h3 => .ok (y :: ys) h3
      | .bl false => compL b tt f e0 vs h1
      | _ => .stuck
    | none => .stuck
theorem compG_fix (b : Val → En → Option En) (tt f : En → Hea → Res Val) (e0 : En) (xs : List Val) (hz : xs.length ≤ 16777216) : ∀ (m k : Nat) (acc : List Val) (h : Hea), k + m = xs.length + 1 → 0 < m → acc.length ≤ k →
    compG (srcFix xs).item b tt f e0 m k acc h = (compL b tt f e0 (xs.drop k) h).bind fun ys h1 => .ok (acc ++ ys) h1 := by
  intro m
  induction m with
  | zero => intro k acc h hm h0; omega
  | succ m ih =>
    intro k acc h hm _ ha
    unfold compG
    rw [fix_item xs (by omega)]
    by_cases hk : k < xs.length
    · rw [List.getElem?_eq_getElem hk, List.drop_eq_getElem_cons hk]
      unfold compL
      dsimp only
      cases b xs[k] e0 with
      | none => rfl
      | some e1 =>
        dsimp only
        cases noX (tt e1 h) with
        | ok c h1 =>
          simp only [ap_bindOk]
          cases c with
          | bl c =>
            cases c with
            | true =>
              dsimp only
              cases noX (f e1 h1) with
              | ok y h2 =>
                simp only [ap_bindOk]
                rw [if_pos (by omega), ih (k + 1) (acc ++ [y]) h2 (by omega) (by omega) (by simp; omega)]
                cases compL b tt f e0 (xs.drop (k + 1)) h2 with
                | ok ys h3 => simp
                | exc c d h3 => rfl
                | stuck => rfl
              | exc c d h2 => rfl
              | stuck => rfl
            | false =>
              dsimp only
              exact ih (k + 1) acc h1 (by omega) (by omega) (by omega)
          | _ => rfl
        | exc c d h1 => rfl
        | stuck => rfl
    · rw [List.getElem?_eq_none_iff.mpr (by omega), List.drop_eq_nil_of_le (by omega)]
      simp [compL]
section
variable {own : List Nat} {src : En → Hea → Res Src} {b : Val → En → Option En} {tt f : En → Hea → Res Val} {e : En} {h h1 : Hea} {xs : List Val}
theorem comp_eq (a : src e h = .ok (srcFix xs) h1) (hz : xs.length ≤ 16777216) : lComp own src b tt f e h = compL b tt f (wipeE e own) xs h1 := by
  unfold lComp
  rw [a]
  show compG (srcFix xs).item b tt f (wipeE e own) (xs.length + 1) 0 [] h1 = _
  rw [compG_fix b tt f _ xs hz (xs.length + 1) 0 [] h1 (by omega) (by omega) (by simp)]
  cases hc : compL b tt f (wipeE e own) (List.drop 0 xs) h1 <;> simp at hc <;> simp [hc, Res.bind]
/-- test and item tell values and leave the heap -/
theorem compL_pure {p : Val → Bool} {y : Val → Val} {e0 : En} : ∀ {xs : List Val} (w : ∀ v ∈ xs, ∃ e1, b v e0 = some e1 ∧ tt e1 h = .ok (.bl (p v)) h ∧ (p v = true → f e1 h = .ok (y v) h)), compL b tt f e0 xs h = .ok ((xs.filter p).map y) h
  | [], _ => rfl
  | v :: vs, w => by
    obtain ⟨e1, a1, a2, a3⟩ := w v List.mem_cons_self
    have ih := compL_pure (xs := vs) fun u hu => w u (List.mem_cons_of_mem _ hu)
    unfold compL
    simp only [a1, a2, ap_noX, ap_bindOk]
    cases hp : p v with
    | true => simp [a3 hp, ih, List.filter_cons, hp]
    | false => simp [ih, List.filter_cons, hp]
end
section
variable {f f1 f2 f3 : En → Hea → Res Val} {l : En → Hea → Res (List Val)} {e : En} {h h1 h2 : Hea} {r : Res Val} {d d2 d3 : Val} {ds : List Val}
theorem or_no (a : f1 e h = .ok (.bl false) h1) (b : f2 e h1 = r) : eOr f1 f2 e h = r := by simp only [ap_or, a, ap_bindOk]; exact b
theorem or_yes (a : f1 e h = .ok (.bl true) h1) : eOr f1 f2 e h = .ok (.bl true) h1 := by simp only [ap_or, a, ap_bindOk]
theorem and_yes (a : f1 e h = .ok (.bl true) h1) (b : f2 e h1 = r) : eAnd f1 f2 e h = r := by simp only [ap_and, a, ap_bindOk]; exact b
theorem and_no (a : f1 e h = .ok (.bl false) h1) : eAnd f1 f2 e h = .ok (.bl false) h1 := by simp only [ap_and, a, ap_bindOk]
theorem not_ok {b : Bool} (a : f e h = .ok (.bl b) h1) : eUn oNot f e h = .ok (.bl (!b)) h1 := by simp only [ap_un, a, ap_bindOk]; rfl
theorem bin_ok {o : Hea → Val → Val → Option Val} (a : f1 e h = .ok d h1) (b : f2 e h1 = .ok d2 h2) (c : o h2 d d2 = some d3) : eBin o f1 f2 e h = .ok d3 h2 := by simp only [ap_bin, a, ap_bindOk, b, c, ap_optS]
theorem un_ok {o : Hea → Val → Option Val} (a : f e h = .ok d h1) (c : o h1 d = some d3) : eUn o f e h = .ok d3 h1 := by simp only [ap_un, a, ap_bindOk, c, ap_optS]
theorem acons_ok {xs : List Val} (a : f e h = .ok d h1) (b : l e h1 = .ok xs h2) : aCons f l e h = .ok (d :: xs) h2 := by simp only [ap_acons, a, ap_bindOk, b]
theorem disp_ok (a : l e h = .ok ds h1) (hl : ds.length ≤ 16777216) : lDisp l e h = .ok ds h1 := by simp only [ap_disp, a, ap_bindOk, if_pos hl]
theorem tup_ok (a : l e h = .ok ds h1) (hl : ds.length ≤ 16777216) : eTup l e h = .ok (.tup ds) h1 := by simp only [ap_tup, a, ap_bindOk, if_pos hl]
theorem lst_ok (a : l e h = .ok ds h1) : eLst l e h = .ok (.lst ds) h1 := by show (l e h).bind _ = _; rw [a]; rfl
theorem tmp_ok (a : l e h = .ok ds h1) : iTmp l e h = .ok (srcFix ds) h1 := by show (l e h).bind _ = _; rw [a]; rfl
theorem call_eq {cf : List Val → Hea → Res Val} (a : l e h = .ok ds h1) (b : cf ds h1 = r) : eCall cf l e h = r := by simp only [ap_call, a, ap_bindOk]; exact b
theorem if_t (a : f1 e h = .ok (.bl true) h1) (b : f2 e h1 = r) : eIf f1 f2 f3 e h = r := by simp only [ap_eif, a, ap_bindOk]; exact b
theorem if_f (a : f1 e h = .ok (.bl false) h1) (b : f3 e h1 = r) : eIf f1 f2 f3 e h = r := by simp only [ap_eif, a, ap_bindOk]; exact b
end
theorem ne_same {h : Hea} (a : Val) (e : eqB h a a = some true) : oNe h a a = some (.bl false) := by simp only [op_ne, e, Option.map_some, Bool.not_true]
theorem ne_int (h : Hea) (n : Int) : oNe h (.int n) (.int n) = some (.bl false) := ne_same _ (by rw [eq_int]; simp)
theorem app_of {f g : En → Hea → Res Val} {e : En} {h h1 h2 : Hea} {i : Nat} {xs0 xs : List Val} {y : Val} (a : f e h = .ok (.ref i) h1) (b : h1[i]? = some (.lst xs0)) (c : g e h1 = .ok y h2) (d : h2[i]? = some (.lst xs)) (hl : xs.length < 16777216) : eApp f g e h = .ok .non (h2.set i (.lst (xs ++ [y]))) := by
  unfold eApp
  simp only [a, ap_bindOk, b, c, d]
  rw [if_pos hl]
theorem lenO_of {k : Nat} {cf : List Val → Hea → Res Val} {f : En → Hea → Res Val} {e : En} {h : Hea} {x : Val} {fs : List (Nat × Val)} {n : Int} (a : f e h = .ok x h) (i : insOf h x = some (k, fs)) (c : cf [x] h = .ok (.int n) h) (b0 : 0 ≤ n) (b6 : n < 9223372036854775808) : eLenO k cf f e h = .ok (.int n) h := by
  unfold eLenO
  simp only [a, ap_bindOk, i, c, ap_noX]
  simp only [if_true]
  rw [if_pos ⟨b0, b6⟩]
@[simp] theorem src_seqT (f : En → Hea → Res Val) (e : En) (h : Hea) : iSeq f e h = (f e h).bind fun d h1 => match d with
  | .ref i => if (lstAt h1 i).isSome = true then .ok (srcLive i) h1 else .stuck
  | .tup xs => .ok (srcFix xs) h1
  | .lst xs => .ok (srcFix xs) h1
  | _ => .stuck := rfl
@[simp] theorem src_tmp (f : En → Hea → Res (List Val)) (e : En) (h : Hea) : iTmp f e h = (f e h).bind fun xs h1 => .ok (srcFix xs) h1 := rfl
@[simp] theorem ap_lst (l : En → Hea → Res (List Val)) (e : En) (h : Hea) : eLst l e h = (l e h).bind fun xs h1 => .ok (.lst xs) h1 := rfl
@[simp] theorem ls_lst (h : Hea) (xs : List Val) : lstOf h (.lst xs) = some xs := rfl
@[simp] theorem it_lst (h : Hea) (xs : List Val) : itemsOf h (.lst xs) = some xs := rfl
end Lad
end
/-! ## LadNum -/
section
set_option maxRecDepth 10000
namespace Lad
theorem nmod (m n : Nat) : ((m : Int)).fmod (n : Int) = ((m % n : Nat) : Int) := by
  rw [Int.fmod_eq_emod_of_nonneg _ (Int.natCast_nonneg n)]
  rfl
theorem half {m n : Nat} (hr : 0 < m % n) (hn : 0 < n) : 2 * (n % (m % n)) < n := by
  have h1 : m % n < n := Nat.mod_lt _ hn
  have h2 : n % (m % n) < m % n := Nat.mod_lt _ hr
  have h3 : n % (m % n) ≤ n - m % n := by
    rw [Nat.mod_eq_sub_mod (Nat.le_of_lt h1)]
    exact Nat.mod_le _ _
  omega
theorem gcd_step (m n : Nat) : Nat.gcd n (m % n) = Nat.gcd m n := by
  rw [Nat.gcd_comm m n, Nat.gcd_rec n m, Nat.gcd_comm]
end Lad
namespace Num
open PySem L2 Lad
def b_is_whole : En → Hea → SRes := (sRet (eAnd (eUn (oIsi [.int]) (eVar 0)) (eUn oNot (eUn (oIsi [.bool]) (eVar 0)))))
def c_is_whole : List Val → Hea → Res Val := runB 1 1 b_is_whole
def l_common_divisor_0 : En → Hea → SRes := (sPar [0, 1] (aCons (eVar 1) (aCons (eBin oMod (eCB gInt (aCons (eVar 0) aNil)) (eCB gInt (aCons (eVar 1) aNil))) aNil)))
def b_common_divisor : En → Hea → SRes := (sSeq (sPar [0, 1] (aCons (eCB gAbs (aCons (eVar 0) aNil)) (aCons (eCB gAbs (aCons (eVar 1) aNil)) aNil)))
  (sSeq (sWhile 5000 (eBin oGt (eVar 1) (eC (.int 0))) l_common_divisor_0)
  (sRet (eVar 0))))
def c_common_divisor : List Val → Hea → Res Val := runB 2 2 b_common_divisor
def b_is_above : En → Hea → SRes := (sRet (eBin oGt (eBin oMul (eBin oIx (eVar 0) (eC (.int 0))) (eBin oIx (eVar 1) (eC (.int 1)))) (eBin oMul (eBin oIx (eVar 1) (eC (.int 0))) (eBin oIx (eVar 0) (eC (.int 1))))))
def c_is_above : List Val → Hea → Res Val := runB 2 2 b_is_above
def b_is_integer : En → Hea → SRes := (sRet (eAnd (eCall c_is_whole (aCons (eVar 0) aNil)) (eChain oLe oLe (eVar 1) (eVar 0) (eVar 2))))
def c_is_integer : List Val → Hea → Res Val := runB 3 3 b_is_integer
def b_is_fraction : En → Hea → SRes := (sSeq (sIf (eOr (eUn oNot (eUn (oIsi [.tuple]) (eVar 0))) (eOr (eBin oNe (eIt gLen (eVar 0)) (eC (.int 2))) (eUn oNot (eItL gAll (lComp [1] (iSeq (eVar 0)) (gN 1) eYes (eCall c_is_whole (aCons (eVar 1) aNil))))))) (sRet (eC (.bl false))) sNil)
  (sRet (eAnd (eBin oGt (eBin oIx (eVar 0) (eC (.int 1))) (eC (.int 0))) (eBin oEq (eCall c_common_divisor (aCons (eBin oIx (eVar 0) (eC (.int 0))) (aCons (eBin oIx (eVar 0) (eC (.int 1))) aNil))) (eC (.int 1))))))
def c_is_fraction : List Val → Hea → Res Val := runB 1 2 b_is_fraction
def b_fraction (ec : Nat) : En → Hea → SRes := (sSeq (sIf (eBin oEq (eVar 1) (eC (.int 0))) (sRaise ec (eVar 1)) sNil)
  (sSeq (sSet 2 (eIf (eBin oGt (eVar 1) (eC (.int 0))) (eCall c_common_divisor (aCons (eVar 0) (aCons (eVar 1) aNil))) (eUn oNeg (eCall c_common_divisor (aCons (eVar 0) (aCons (eVar 1) aNil))))))
  (sRet (eTup (aCons (eBin oDiv (eVar 0) (eVar 2)) (aCons (eBin oDiv (eVar 1) (eVar 2)) aNil))))))
def c_fraction (ec : Nat) : List Val → Hea → Res Val := runB 2 3 (b_fraction ec)
def b_added (ec : Nat) : En → Hea → SRes := (sRet (eCall (c_fraction ec) (aCons (eBin oAdd (eBin oMul (eBin oIx (eVar 0) (eC (.int 0))) (eBin oIx (eVar 1) (eC (.int 1)))) (eBin oMul (eBin oIx (eVar 1) (eC (.int 0))) (eBin oIx (eVar 0) (eC (.int 1))))) (aCons (eBin oMul (eBin oIx (eVar 0) (eC (.int 1))) (eBin oIx (eVar 1) (eC (.int 1)))) aNil))))
def c_added (ec : Nat) : List Val → Hea → Res Val := runB 2 2 (b_added ec)
def b_less (ec : Nat) : En → Hea → SRes := (sRet (eCall (c_fraction ec) (aCons (eBin oSub (eBin oMul (eBin oIx (eVar 0) (eC (.int 0))) (eBin oIx (eVar 1) (eC (.int 1)))) (eBin oMul (eBin oIx (eVar 1) (eC (.int 0))) (eBin oIx (eVar 0) (eC (.int 1))))) (aCons (eBin oMul (eBin oIx (eVar 0) (eC (.int 1))) (eBin oIx (eVar 1) (eC (.int 1)))) aNil))))
def c_less (ec : Nat) : List Val → Hea → Res Val := runB 2 2 (b_less ec)
def b_multiplied (ec : Nat) : En → Hea → SRes := (sRet (eCall (c_fraction ec) (aCons (eBin oMul (eBin oIx (eVar 0) (eC (.int 0))) (eBin oIx (eVar 1) (eC (.int 0)))) (aCons (eBin oMul (eBin oIx (eVar 0) (eC (.int 1))) (eBin oIx (eVar 1) (eC (.int 1)))) aNil))))
def c_multiplied (ec : Nat) : List Val → Hea → Res Val := runB 2 2 (b_multiplied ec)
/-! ### gcd -/
theorem gcd_loop (h : Hea) : ∀ (k n : Nat) (a b : Nat), b < 2 ^ k → 2 * k + 2 ≤ n →
    whG (eBin oGt (eVar 1) (eC (.int 0))) (sPar [0, 1] (aCons (eVar 1) (aCons (eBin oMod (eCB gInt (aCons (eVar 0) aNil)) (eCB gInt (aCons (eVar 1) aNil))) aNil))) n [some (.int a), some (.int b)] h = .nx [some (.int (Nat.gcd a b)), some (.int 0)] h
  | 0, n + 1, a, b, hk, hn => by
    have hz : b = 0 := by simp at hk; exact hk
    subst hz
    unfold whG
    simp
  | k + 1, n + 1, a, b, hk, hn => by
    have e1 : ∀ (n a b : Nat), whG (eBin oGt (eVar 1) (eC (.int 0))) (sPar [0, 1] (aCons (eVar 1) (aCons (eBin oMod (eCB gInt (aCons (eVar 0) aNil)) (eCB gInt (aCons (eVar 1) aNil))) aNil))) (n + 1) [some (.int a), some (.int b)] h =
        if b = 0 then .nx [some (.int a), some (.int 0)] h else whG (eBin oGt (eVar 1) (eC (.int 0))) (sPar [0, 1] (aCons (eVar 1) (aCons (eBin oMod (eCB gInt (aCons (eVar 0) aNil)) (eCB gInt (aCons (eVar 1) aNil))) aNil))) n [some (.int b), some (.int ((a % b : Nat) : Int))] h := by
      intro n a b
      by_cases hz : b = 0
      · subst hz
        unfold whG
        simp
      · have hp : (0 : Int) < b := by omega
        have hne : (b : Int) ≠ 0 := by omega
        conv => lhs; unfold whG
        simp [hz, Nat.pos_of_ne_zero hz, hne, nmod]
    rw [e1]
    by_cases hz : b = 0
    · subst hz
      simp
    · rw [if_neg hz]
      match n, hn with
      | n + 1, hn =>
        rw [e1]
        by_cases hr : a % b = 0
        · rw [if_pos hr, ← gcd_step a b, hr]
          simp
        · rw [if_neg hr, gcd_loop h k n _ _ ?_ (by omega), gcd_step, gcd_step]
          have := half (m := a) (n := b) (by omega) (by omega)
          have e : 2 ^ (k + 1) = 2 * 2 ^ k := by rw [Nat.pow_succ]; omega
          omega
theorem gcd_ok (h : Hea) (a b : Int) (hb : b.natAbs < 2 ^ 2000) : c_common_divisor [.int a, .int b] h = .ok (.int (Int.gcd a b)) h := by
  unfold c_common_divisor runB runG b_common_divisor
  simp [startE, sWhile, l_common_divisor_0]
  rw [gcd_loop h 2000 5000 a.natAbs b.natAbs hb (by omega)]
  simp
  rfl
/-! ### fractions -/
def sg (o u : Int) : Int := if 0 < u then (Int.gcd o u : Int) else -(Int.gcd o u : Int)
def fp (o u : Int) : Int := o.fdiv (sg o u)
def fq (o u : Int) : Int := u.fdiv (sg o u)
structure FrOk (o u p q : Int) : Prop where
  pos : 0 < q
  cop : Int.gcd p q = 1
  eq : p * u = o * q
  lp : p.natAbs ≤ o.natAbs
  lq : q.natAbs ≤ u.natAbs
theorem fr_ok {o u : Int} (hu : u ≠ 0) : FrOk o u (fp o u) (fq o u) ∧ sg o u ≠ 0 ∧ (sg o u).natAbs ≤ u.natAbs := by
  obtain ⟨g, hgd⟩ : ∃ g, g = Int.gcd o u := ⟨_, rfl⟩
  have hg : 0 < g := by rw [hgd]; exact Int.gcd_pos_of_ne_zero_right o hu
  obtain ⟨o', ho⟩ : (g : Int) ∣ o := by rw [hgd]; exact Int.gcd_dvd_left ..
  obtain ⟨u', hu'⟩ : (g : Int) ∣ u := by rw [hgd]; exact Int.gcd_dvd_right ..
  have hc : Int.gcd o' u' = 1 := by
    have e : g = g * Int.gcd o' u' := by
      have := hgd
      rw [ho, hu', Int.gcd_mul_left] at this
      simpa using this
    have e2 : g * 1 = g * Int.gcd o' u' := by omega
    exact (Nat.eq_of_mul_eq_mul_left hg e2).symm
  have ab : ∀ x : Int, x.natAbs ≤ ((g : Int) * x).natAbs := fun x => by
    rw [Int.natAbs_mul]
    exact Nat.le_mul_of_pos_left _ (by simpa using hg)
  have gu : g ≤ u.natAbs := by
    have hz : u' ≠ 0 := fun z => by rw [z] at hu'; simp at hu'; exact hu hu'
    rw [hu', Int.natAbs_mul]
    exact Nat.le_mul_of_pos_right _ (by omega)
  by_cases hp : 0 < u
  · have es : sg o u = g := by
      unfold sg
      rw [if_pos hp, hgd]
    have ep : fp o u = o' := by
      unfold fp
      rw [es, ho]
      exact Int.mul_fdiv_cancel_left _ (by omega)
    have eq : fq o u = u' := by
      unfold fq
      rw [es, hu']
      exact Int.mul_fdiv_cancel_left _ (by omega)
    rw [ep, eq, es]
    refine ⟨⟨?_, hc, ?_, by rw [ho]; exact ab o', by rw [hu']; exact ab u'⟩, by omega, by omega⟩
    · rw [hu'] at hp
      exact Int.pos_of_mul_pos_right hp (by omega)
    · rw [ho, hu', Int.mul_comm o', Int.mul_assoc, Int.mul_assoc, Int.mul_comm u']
  · have es : sg o u = -g := by
      unfold sg
      rw [if_neg hp, hgd]
    have ep : fp o u = -o' := by
      unfold fp
      rw [es, ho, show (g : Int) * o' = (-(g : Int)) * (-o') by rw [Int.neg_mul_neg]]
      exact Int.mul_fdiv_cancel_left _ (by omega)
    have eq : fq o u = -u' := by
      unfold fq
      rw [es, hu', show (g : Int) * u' = (-(g : Int)) * (-u') by rw [Int.neg_mul_neg]]
      exact Int.mul_fdiv_cancel_left _ (by omega)
    rw [ep, eq, es]
    refine ⟨⟨?_, by simpa using hc, ?_, by rw [ho, Int.natAbs_neg]; exact ab o', by rw [hu', Int.natAbs_neg]; exact ab u'⟩, by omega, by omega⟩
    · have hm : 0 < (g : Int) * (-u') := by
        rw [Int.mul_neg, ← hu']
        omega
      exact Int.pos_of_mul_pos_right hm (by omega)
    · rw [ho, hu', Int.neg_mul, Int.mul_neg, Int.mul_comm o', Int.mul_assoc, Int.mul_assoc, Int.mul_comm u']
theorem frac_ok (ec : Nat) (h : Hea) {o u : Int} (hu : u ≠ 0) (bu : u.natAbs < 2 ^ 2000) : c_fraction ec [.int o, .int u] h = .ok (.tup [.int (fp o u), .int (fq o u)]) h := by
  have ⟨_, s0, sl⟩ := fr_ok (o := o) hu
  have l9 : (sg o u).natAbs.log2 < 9000 := log2_lt (k := 9000) (by
    have : (2 : Nat) ^ 2000 ≤ 2 ^ 9000 := Nat.pow_le_pow_right (by decide) (by decide)
    omega) (by decide)
  unfold c_fraction runB runG b_fraction
  simp only [List.length_cons, List.length_nil, startE]
  by_cases hp : 0 < u
  · have es : sg o u = Int.gcd o u := by unfold sg; rw [if_pos hp]
    have s0' : ¬ ((Int.gcd o u : Nat) : Int) = 0 := by rw [← es]; exact s0
    have l9' : ((Int.gcd o u : Nat) : Int).natAbs.log2 < 9000 := by rw [← es]; exact l9
    simp [hu, hp, gcd_ok _ _ _ bu, s0', l9', -Int.natCast_eq_zero, -Int.gcd_eq_zero_iff, -Int.natAbs_natCast]
    unfold fp fq
    rw [es]
    exact ⟨rfl, rfl⟩
  · have es : sg o u = -Int.gcd o u := by unfold sg; rw [if_neg hp]
    have s0' : ¬ -((Int.gcd o u : Nat) : Int) = 0 := by rw [← es]; exact s0
    have l9' : (-((Int.gcd o u : Nat) : Int)).natAbs.log2 < 9000 := by rw [← es]; exact l9
    simp [hu, hp, gcd_ok _ _ _ bu, s0', l9', -Int.neg_eq_zero, -Int.natAbs_neg, -Int.natAbs_natCast]
    unfold fp fq
    rw [es]
    exact ⟨rfl, rfl⟩
theorem frac_0 (ec : Nat) (h : Hea) (o : Int) : c_fraction ec [.int o, .int 0] h = .exc ec (.int 0) h := by
  unfold c_fraction runB runG b_fraction
  simp [startE]
theorem whole_int (h : Hea) (a : Int) : c_is_whole [.int a] h = .ok (.bl true) h := by
  unfold c_is_whole runB runG b_is_whole
  simp [startE, oIsi, tyK, isTB]
theorem isf_ok (h : Hea) (p q : Int) (bq : q.natAbs < 2 ^ 2000) : c_is_fraction [.tup [.int p, .int q]] h = .ok (.bl (decide (0 < q ∧ Int.gcd p q = 1))) h := by
  unfold c_is_fraction runB runG b_is_fraction
  by_cases hq : 0 < q
  · simp [startE, oIsi, tyK, isTB, lComp, iSeq, srcFix, compG, wipeE, whole_int, gAll, bls?, gcd_ok _ _ _ bq, hq]
    have z : (((Int.gcd p q : Nat) : Int) = 1) ↔ Int.gcd p q = 1 := by omega
    simp only [z]
  · simp [startE, oIsi, tyK, isTB, lComp, iSeq, srcFix, compG, wipeE, whole_int, gAll, bls?, gcd_ok _ _ _ bq, hq]
theorem above_ok (h : Hea) (p q r s : Int) (m1 : mulOk p s = true) (m2 : mulOk r q = true) : c_is_above [.tup [.int p, .int q], .tup [.int r, .int s]] h = .ok (.bl (decide (r * q < p * s))) h := by
  unfold c_is_above runB runG b_is_above
  simp [startE, m1, m2]
theorem added_ok (ec : Nat) (h : Hea) (p q r s : Int) (m1 : mulOk p s = true) (m2 : mulOk r q = true) (m3 : mulOk q s = true) (h0 : q * s ≠ 0) (b : (q * s).natAbs < 2 ^ 2000) :
    c_added ec [.tup [.int p, .int q], .tup [.int r, .int s]] h = .ok (.tup [.int (fp (p * s + r * q) (q * s)), .int (fq (p * s + r * q) (q * s))]) h := by
  unfold c_added runB runG b_added
  simp [startE, m1, m2, m3, frac_ok ec h h0 b]
theorem less_ok (ec : Nat) (h : Hea) (p q r s : Int) (m1 : mulOk p s = true) (m2 : mulOk r q = true) (m3 : mulOk q s = true) (h0 : q * s ≠ 0) (b : (q * s).natAbs < 2 ^ 2000) :
    c_less ec [.tup [.int p, .int q], .tup [.int r, .int s]] h = .ok (.tup [.int (fp (p * s - r * q) (q * s)), .int (fq (p * s - r * q) (q * s))]) h := by
  unfold c_less runB runG b_less
  simp [startE, m1, m2, m3, frac_ok ec h h0 b]
theorem mul_ok (ec : Nat) (h : Hea) (p q r s : Int) (m1 : mulOk p r = true) (m3 : mulOk q s = true) (h0 : q * s ≠ 0) (b : (q * s).natAbs < 2 ^ 2000) :
    c_multiplied ec [.tup [.int p, .int q], .tup [.int r, .int s]] h = .ok (.tup [.int (fp (p * r) (q * s)), .int (fq (p * r) (q * s))]) h := by
  unfold c_multiplied runB runG b_multiplied
  simp [startE, m1, m3, frac_ok ec h h0 b]
theorem isi_ok (h : Hea) (a l u : Int) : c_is_integer [.int a, .int l, .int u] h = .ok (.bl (decide (l ≤ a ∧ a ≤ u))) h := by
  unfold c_is_integer runB runG b_is_integer
  by_cases hl : l ≤ a
  · simp [startE, whole_int, hl]
  · simp [startE, whole_int, hl]
end Num
end
/-! ## LadDraw -/
section
set_option maxRecDepth 10000
namespace Lad
open PySem L2
theorem lt_of_at {h : Hea} {p : Nat} {o : Ob} (e : h[p]? = some o) : p < h.length := (List.getElem?_eq_some_iff.mp e).1
theorem ls_at {h : Hea} {p : Nat} {xs : List Val} (e : h[p]? = some (.lst xs)) : lstAt h p = some xs := by unfold lstAt; rw [e]
@[simp] theorem ap_setIx (fv fo fi : En → Hea → Res Val) (e : En) (h : Hea) : sSetIx fv fo fi e h = ofR ((fv e h).bind fun v h1 => (fo e h1).bind fun o h2 => (fi e h2).bind fun i h3 => match setIx h3 o i v with
    | some h4 => .ok Val.non h4
    | none => .stuck) e fun _ h4 => .nx e h4 := rfl
/-- the script, a pool of a number and a state, and what else is held -/
abbrev Hp2 (ns : List Int) (a b : Int) (t : Hea) : Hea := .fro ns :: .lst [.int a, .int b] :: t
section
variable (ns : List Int) (a b : Int) (t : Hea)
@[simp] theorem hp2_ix0 : oIx (Hp2 ns a b t) (.ref 1) (.int 0) = some (.int a) := rfl
@[simp] theorem hp2_ix1 : oIx (Hp2 ns a b t) (.ref 1) (.int 1) = some (.int b) := rfl
@[simp] theorem hp2_set0 (v : Int) : setIx (Hp2 ns a b t) (.ref 1) (.int 0) (.int v) = some (Hp2 ns v b t) := rfl
@[simp] theorem hp2_set1 (v : Int) : setIx (Hp2 ns a b t) (.ref 1) (.int 1) (.int v) = some (Hp2 ns a v t) := rfl
end
def PoolOk (a b : Int) : Prop := 0 ≤ a ∧ 0 ≤ b ∧ b < 2147483647
end Lad
namespace Drw
open PySem L2 Lad
def b__law_draw : En → Hea → SRes := (sSeq (sIf (eBin oGt (eBin oIx (eVar 0) (eC (.int 0))) (eC (.int 0))) (sSeq (sSet 2 (eBin oMod (eCB gInt (aCons (eBin oIx (eVar 0) (eC (.int 0))) aNil)) (eVar 1)))
  (sSeq (sSetIx (eBin oDiv (eBin oIx (eVar 0) (eC (.int 0))) (eVar 1)) (eVar 0) (eC (.int 0)))
  (sRet (eVar 2)))) sNil)
  (sSeq (sSetIx (eBin oMod (eCB gInt (aCons (eBin oAdd (eBin oMul (eBin oIx (eVar 0) (eC (.int 1))) (eC (.int 48271))) (eC (.int 11))) aNil)) (eC (.int 2147483647))) (eVar 0) (eC (.int 1)))
  (sRet (eBin oMod (eCB gInt (aCons (eBin oDiv (eBin oMod (eCB gInt (aCons (eBin oMul (eBin oIx (eVar 0) (eC (.int 1))) (eBin oIx (eVar 0) (eC (.int 1)))) aNil)) (eC (.int 2147483629))) (eC (.int 16))) aNil)) (eVar 1)))))
def c__law_draw : List Val → Hea → Res Val := runB 2 3 b__law_draw
theorem draw_ok (ns : List Int) (t : Hea) {a b m : Int} (P : PoolOk a b) (hm : 0 < m) (lm : m.natAbs.log2 < 9000) :
    ∃ r a' b' : Int, 0 ≤ r ∧ r < m ∧ PoolOk a' b' ∧ c__law_draw [.ref 1, .int m] (Hp2 ns a b t) = .ok (.int r) (Hp2 ns a' b' t) := by
  obtain ⟨ha, hb, hb2⟩ := P
  have hm' : ¬ m = 0 := by omega
  unfold c__law_draw runB runG b__law_draw
  by_cases h0 : 0 < a
  · refine ⟨a.fmod m, a.fdiv m, b, Int.fmod_nonneg_of_pos _ hm, Int.fmod_lt_of_pos _ hm, ⟨Int.fdiv_nonneg ha (by omega), hb, hb2⟩, ?_⟩
    simp [startE, h0, hm', lm]
    exact fin_len rfl
  · have a0 : a = 0 := by omega
    subst a0
    have m1 : mulOk b 48271 = true := mulOk_r (by decide)
    have nb : 0 ≤ (b * 48271 + 11).fmod 2147483647 := Int.fmod_nonneg_of_pos _ (by decide)
    have nb2 : (b * 48271 + 11).fmod 2147483647 < 2147483647 := Int.fmod_lt_of_pos _ (by decide)
    generalize hn : (b * 48271 + 11).fmod 2147483647 = nb' at nb nb2
    have m2 : mulOk nb' nb' = true := mulOk_r (by omega)
    refine ⟨(((nb' * nb').fmod 2147483629).fdiv 16).fmod m, 0, nb', Int.fmod_nonneg_of_pos _ hm, Int.fmod_lt_of_pos _ hm, ⟨Int.le_refl _, nb, nb2⟩, ?_⟩
    have l16 : Nat.log2 16 < 9000 := by decide
    simp [startE, m1, hn, m2, hm', l16]
    exact fin_len rfl
/-! the pool of the later laws -/
def b_poolB : En → Hea → SRes := (sSeq (sSet 2 (eIf (eBin oLt (eVar 1) (eIt gLen (eVar 0))) (eCB gMax2 (aCons (eCB gInt (aCons (eBin oIx (eVar 0) (eVar 1)) aNil)) (aCons (eCB gInt (aCons (eBin oSub (eUn oNeg (eC (.int 1))) (eBin oIx (eVar 0) (eVar 1))) aNil)) aNil))) (eC (.int 7))))
  (sSeq (sSet 3 (eBin oAdd (eBin oMod (eCB gInt (aCons (eBin oMul (eBin oAdd (eBin oMod (eCB gInt (aCons (eVar 2) aNil)) (eC (.int 2147483629))) (eBin oMul (eC (.int 104729)) (eBin oAdd (eVar 1) (eC (.int 1))))) (eC (.int 48271))) aNil)) (eC (.int 2147483629))) (eC (.int 1))))
  (sRet (eNew (lDisp (aCons (eBin oMul (eVar 2) (eCB gInt (aCons (eBin oGe (eVar 2) (eBin oPow (eC (.int 10)) (eC (.int 18)))) aNil))) (aCons (eBin oMod (eCB gInt (aCons (eBin oMul (eVar 3) (eVar 3)) aNil)) (eC (.int 2147483629))) aNil)))))))
def c_poolB : List Val → Hea → Res Val := runK 2 4 b_poolB
theorem pow18 (h : Hea) : oPow h (.int 10) (.int 18) = some (.int 1000000000000000000) := rfl
theorem poolB_ok (ns : List Int) (k : Nat) (hk : k < 64) : ∃ a b : Int, PoolOk a b ∧ c_poolB [.ref 0, .int k] [.fro ns] = .ok (.ref 1) (Hp2 ns a b []) := by
  have el : itemsOf [Ob.fro ns] (.ref 0) = some (ns.map Val.int) := rfl
  have hs : ∃ z : Int, 0 ≤ z ∧ eIf (eBin oLt (eVar 1) (eIt gLen (eVar 0))) (eCB gMax2 (aCons (eCB gInt (aCons (eBin oIx (eVar 0) (eVar 1)) aNil)) (aCons (eCB gInt (aCons (eBin oSub (eUn oNeg (eC (.int 1))) (eBin oIx (eVar 0) (eVar 1))) aNil)) aNil))) (eC (.int 7)) (startE 4 [.ref 0, .int k]) [.fro ns] = .ok (.int z) [.fro ns] := by
    by_cases hl : k < ns.length
    · have ei : oIx [Ob.fro ns] (.ref 0) (.int k) = some (.int ns[k]) := by
        show L2.atI (ns.map Val.int) (k : Int) = _
        unfold L2.atI L2.ixN
        rw [if_pos (by omega), if_pos (by simp; omega)]
        simp [hl]
      have e1 : eIt gLen (eVar 0) (startE 4 [.ref 0, .int k]) [.fro ns] = .ok (.int ns.length) [.fro ns] := by simp [startE, lstAt]
      have hd : decide ((k : Int) < (ns.length : Int)) = true := decide_eq_true (by omega)
      generalize hz : ns[k] = z at ei
      refine ⟨if -1 - z > z then -1 - z else z, by split <;> omega, ?_⟩
      have e2 : eVar 1 (startE 4 [.ref 0, .int k]) [.fro ns] = .ok (.int k) [.fro ns] := rfl
      have e3 : eVar 0 (startE 4 [.ref 0, .int k]) [.fro ns] = .ok (.ref 0) [.fro ns] := rfl
      generalize (k : Int) = kk at *
      generalize (ns.length : Int) = nn at *
      simp only [ap_eif, ap_bin, e1, e2, e3, ap_bindOk, Lad.op_lt, ap_optS, hd, ap_cb, ap_acons, ap_anil, ei, g_int', ap_un, ap_c, Lad.op_neg, Lad.op_sub, gMax2]
    · have e1 : eIt gLen (eVar 0) (startE 4 [.ref 0, .int k]) [.fro ns] = .ok (.int ns.length) [.fro ns] := by simp [startE, lstAt]
      have hd : decide ((k : Int) < (ns.length : Int)) = false := decide_eq_false (by omega)
      have e2 : eVar 1 (startE 4 [.ref 0, .int k]) [.fro ns] = .ok (.int k) [.fro ns] := rfl
      refine ⟨7, by decide, ?_⟩
      generalize (k : Int) = kk at *
      generalize (ns.length : Int) = nn at *
      simp only [ap_eif, ap_bin, e1, e2, ap_bindOk, Lad.op_lt, ap_optS, hd, ap_c]
  obtain ⟨z, hz, ez⟩ := hs
  have h1 : 0 ≤ (z.fmod 2147483629 + 104729 * ((k : Int) + 1)) := by
    have := Int.fmod_nonneg_of_pos z (b := 2147483629) (by decide)
    omega
  have h2 : (z.fmod 2147483629 + 104729 * ((k : Int) + 1)) < 2147483629 + 104729 * 65 := by
    have := Int.fmod_lt_of_pos z (b := 2147483629) (by decide)
    omega
  generalize hw : ((z.fmod 2147483629 + 104729 * ((k : Int) + 1)) * 48271).fmod 2147483629 + 1 = w
  have w1 : 0 ≤ w := by
    have := Int.fmod_nonneg_of_pos ((z.fmod 2147483629 + 104729 * ((k : Int) + 1)) * 48271) (b := 2147483629) (by decide)
    omega
  have w2 : w < 2147483630 := by
    have := Int.fmod_lt_of_pos ((z.fmod 2147483629 + 104729 * ((k : Int) + 1)) * 48271) (b := 2147483629) (by decide)
    omega
  have m1 : mulOk 104729 ((k : Int) + 1) = true := mulOk_l (by decide)
  have m2 : ∀ x : Int, mulOk x 48271 = true := fun x => mulOk_r (by decide)
  have m3 : ∀ c : Bool, mulOk z (if c = true then 1 else 0) = true := fun c => mulOk_r (by cases c <;> decide)
  have m4 : mulOk w w = true := mulOk_r (by omega)
  refine ⟨z * (if decide (1000000000000000000 ≤ z) = true then 1 else 0), (w * w).fmod 2147483629, ⟨?_, Int.fmod_nonneg_of_pos _ (by decide), ?_⟩, ?_⟩
  · split <;> omega
  · have := Int.fmod_lt_of_pos (w * w) (b := 2147483629) (by decide)
    omega
  · refine (run_rt (fn := finK) (d := .ref 1) (h' := [.fro ns, .lst [.int (z * (if decide (1000000000000000000 ≤ z) = true then 1 else 0)), .int ((w * w).fmod 2147483629)]]) rfl ?_).trans ?_
    · unfold b_poolB
      refine seq_set ez ?_
      refine seq_set (d := .int w) (h1 := [.fro ns]) ?_ ?_
      · rw [← hw]
        generalize (k : Int) = kk at *
        simp [startE, m1, m2]
      · have m3' := m3 (decide (1000000000000000000 ≤ z))
        have m3'' : mulOk z (if 1000000000000000000 ≤ z then 1 else 0) = true := by simpa using m3'
        generalize (k : Int) = kk at *
        simp [startE, pow18, m3'', m4]
    · rfl
end Drw
end
/-! ## K62E -/
section
set_option maxRecDepth 100000
set_option maxHeartbeats 1000000
namespace K62
open PySem L2 Lad
def top (i : Nat) : Stmt := PySem.Challenge.pw_liftedladders_k62_chances_refused.main.body.getD i (.Pass ⟨0, 0, 0, 0⟩)
def fldN : Nat → Str
  | 0 => ""
  | 1 => "number"
  | 2 => "index"
  | _ => ""
def caK (K : PySem.W.Frag) : Nat → Addr
  | 0 => He.ga K "LadderError"
  | 1 => He.ga K "BadNumber"
  | 2 => He.ga K "BadChances"
  | 3 => He.ga K "Chances"
  | _ => 0
def nms : List Str := (["own_rows", "%0", "%1", "%2", "%3", "%4", "%5", "%6", "%7", "%8", "%9", "%10", "%11", "%12", "%13", "%14", "%15", "%16", "%17", "%18"] : List Str) ++ (["%19", "%20", "%21", "%22", "%23", "%24", "%25", "%26", "%27", "%28", "%29", "%30", "%31", "%32", "%33", "%34", "%35", "%36", "%37", "%38"] : List Str) ++ (["%39", "%40", "%41", "%42", "%43", "%44", "%45", "%46", "%47", "%48", "%49", "%50", "%51", "%52", "%53", "%54", "%55", "%56", "%57", "%58"] : List Str) ++ (["%59", "%60", "%61", "%62", "%63", "%64", "%65", "%66", "%67", "%68", "%69", "%70", "%71", "%72", "%73", "%74", "%75", "%76", "%77", "%78"] : List Str) ++ (["%79", "%80", "%81", "%82", "%83", "%84", "%85", "%86", "%87", "%88", "%89", "%90", "%91", "%92", "%93", "%94", "%95", "%96", "%97", "%98"] : List Str)
def nmN (i : Nat) : Str := nms.getD i ""
abbrev TT (K : PySem.W.Frag) : Tb := ⟨caK K, nmN, fldN, none⟩
def sub_BadChances : Nat → Option Bool
  | 1 => some false
  | 2 => some true
  | _ => none
def sub_BadNumber : Nat → Option Bool
  | 1 => some true
  | 2 => some false
  | _ => none
def sub_LadderError : Nat → Option Bool
  | 1 => some true
  | 2 => some true
  | _ => none
def sub_ValueError : Nat → Option Bool
  | 1 => some true
  | 2 => some true
  | _ => none
def k_ALL : Val := (.tup [(.int 1), (.int 1)])
def k_MOST_ROWS : Val := (.int 6)
def k_MOST_STRENGTH : Val := (.int 99)
def k_NONE : Val := (.tup [(.int 0), (.int 1)])
def b_is_whole : En → Hea → SRes := (sRet (eAnd (eUn (oIsi [.int]) (eVar 0)) (eUn oNot (eUn (oIsi [.bool]) (eVar 0)))))
def c_is_whole : List Val → Hea → Res Val := runB 1 1 b_is_whole
def l_common_divisor_0 : En → Hea → SRes := (sPar [0, 1] (aCons (eVar 1) (aCons (eBin oMod (eCB gInt (aCons (eVar 0) aNil)) (eCB gInt (aCons (eVar 1) aNil))) aNil)))
def b_common_divisor : En → Hea → SRes := (sSeq (sPar [0, 1] (aCons (eCB gAbs (aCons (eVar 0) aNil)) (aCons (eCB gAbs (aCons (eVar 1) aNil)) aNil)))
  (sSeq (sWhile 5000 (eBin oGt (eVar 1) (eC (.int 0))) l_common_divisor_0)
  (sRet (eVar 0))))
def c_common_divisor : List Val → Hea → Res Val := runB 2 2 b_common_divisor
def b_is_above : En → Hea → SRes := (sRet (eBin oGt (eBin oMul (eBin oIx (eVar 0) (eC (.int 0))) (eBin oIx (eVar 1) (eC (.int 1)))) (eBin oMul (eBin oIx (eVar 1) (eC (.int 0))) (eBin oIx (eVar 0) (eC (.int 1))))))
def c_is_above : List Val → Hea → Res Val := runB 2 2 b_is_above
def b__law_pool : En → Hea → SRes := (sSeq (sSet 2 (eIf (eBin oLt (eVar 1) (eIt gLen (eVar 0))) (eCB gMax2 (aCons (eCB gInt (aCons (eBin oIx (eVar 0) (eVar 1)) aNil)) (aCons (eCB gInt (aCons (eBin oSub (eUn oNeg (eC (.int 1))) (eBin oIx (eVar 0) (eVar 1))) aNil)) aNil))) (eC (.int 7))))
  (sSeq (sSet 3 (eBin oAdd (eBin oMod (eCB gInt (aCons (eBin oMul (eBin oAdd (eBin oMod (eCB gInt (aCons (eVar 2) aNil)) (eC (.int 2147483629))) (eBin oMul (eC (.int 104729)) (eBin oAdd (eVar 1) (eC (.int 1))))) (eC (.int 48271))) aNil)) (eC (.int 2147483629))) (eC (.int 1))))
  (sRet (eNew (lDisp (aCons (eBin oMul (eVar 2) (eCB gInt (aCons (eBin oGe (eVar 2) (eBin oPow (eC (.int 10)) (eC (.int 18)))) aNil))) (aCons (eBin oMod (eCB gInt (aCons (eBin oMul (eVar 3) (eVar 3)) aNil)) (eC (.int 2147483629))) aNil)))))))
def c__law_pool : List Val → Hea → Res Val := runK 2 4 b__law_pool
def b__law_draw : En → Hea → SRes := (sSeq (sIf (eBin oGt (eBin oIx (eVar 0) (eC (.int 0))) (eC (.int 0))) (sSeq (sSet 2 (eBin oMod (eCB gInt (aCons (eBin oIx (eVar 0) (eC (.int 0))) aNil)) (eVar 1)))
  (sSeq (sSetIx (eBin oDiv (eBin oIx (eVar 0) (eC (.int 0))) (eVar 1)) (eVar 0) (eC (.int 0)))
  (sRet (eVar 2)))) sNil)
  (sSeq (sSetIx (eBin oMod (eCB gInt (aCons (eBin oAdd (eBin oMul (eBin oIx (eVar 0) (eC (.int 1))) (eC (.int 48271))) (eC (.int 11))) aNil)) (eC (.int 2147483647))) (eVar 0) (eC (.int 1)))
  (sRet (eBin oMod (eCB gInt (aCons (eBin oDiv (eBin oMod (eCB gInt (aCons (eBin oMul (eBin oIx (eVar 0) (eC (.int 1))) (eBin oIx (eVar 0) (eC (.int 1)))) aNil)) (eC (.int 2147483629))) (eC (.int 16))) aNil)) (eVar 1)))))
def c__law_draw : List Val → Hea → Res Val := runB 2 3 b__law_draw
def l__law_small_0 : En → Hea → SRes := (sIf (eBin oGt (eVar 3) (eC (.int 0))) (sPar [2, 3] (aCons (eVar 3) (aCons (eBin oMod (eCB gInt (aCons (eVar 2) aNil)) (eCB gInt (aCons (eVar 3) aNil))) aNil))) sNil)
def b__law_small : En → Hea → SRes := (sSeq (sPar [2, 3] (aCons (eCB gAbs (aCons (eVar 0) aNil)) (aCons (eCB gAbs (aCons (eVar 1) aNil)) aNil)))
  (sSeq (sFor (iRng1V (aCons (eC (.int 400)) aNil)) (gN 4) l__law_small_0)
  (sRet (eTup (aCons (eBin oDiv (eVar 0) (eVar 2)) (aCons (eBin oDiv (eVar 1) (eVar 2)) aNil))))))
def c__law_small : List Val → Hea → Res Val := runB 2 5 b__law_small
def b_is_integer : En → Hea → SRes := (sRet (eAnd (eCall c_is_whole (aCons (eVar 0) aNil)) (eChain oLe oLe (eVar 1) (eVar 0) (eVar 2))))
def c_is_integer : List Val → Hea → Res Val := runB 3 3 b_is_integer
def b_is_fraction : En → Hea → SRes := (sSeq (sIf (eOr (eUn oNot (eUn (oIsi [.tuple]) (eVar 0))) (eOr (eBin oNe (eIt gLen (eVar 0)) (eC (.int 2))) (eUn oNot (eItL gAll (lComp [1] (iSeq (eVar 0)) (gN 1) eYes (eCall c_is_whole (aCons (eVar 1) aNil))))))) (sRet (eC (.bl false))) sNil)
  (sRet (eAnd (eBin oGt (eBin oIx (eVar 0) (eC (.int 1))) (eC (.int 0))) (eBin oEq (eCall c_common_divisor (aCons (eBin oIx (eVar 0) (eC (.int 0))) (aCons (eBin oIx (eVar 0) (eC (.int 1))) aNil))) (eC (.int 1))))))
def c_is_fraction : List Val → Hea → Res Val := runB 1 2 b_is_fraction
def b_fraction : En → Hea → SRes := (sSeq (sIf (eBin oEq (eVar 1) (eC (.int 0))) (sRaise 1 (eVar 1)) sNil)
  (sSeq (sSet 2 (eIf (eBin oGt (eVar 1) (eC (.int 0))) (eCall c_common_divisor (aCons (eVar 0) (aCons (eVar 1) aNil))) (eUn oNeg (eCall c_common_divisor (aCons (eVar 0) (aCons (eVar 1) aNil))))))
  (sRet (eTup (aCons (eBin oDiv (eVar 0) (eVar 2)) (aCons (eBin oDiv (eVar 1) (eVar 2)) aNil))))))
def c_fraction : List Val → Hea → Res Val := runB 2 3 b_fraction
def b__law_row : En → Hea → SRes := (sSeq (sSet 2 (eBin oAdd (eC (.int 1)) (eCall c__law_draw (aCons (eVar 0) (aCons (eC (.int 6)) aNil)))))
  (sSeq (sSet 3 (eCall c__law_draw (aCons (eVar 0) (aCons (eBin oAdd (eVar 2) (eC (.int 1))) aNil))))
  (sSeq (sSet 4 (eCall c__law_draw (aCons (eVar 0) (aCons (eBin oAdd (eBin oSub (eVar 2) (eVar 3)) (eC (.int 1))) aNil))))
  (sSeq (sSet 5 (eLst (lDisp (aCons (eCall c__law_small (aCons (eVar 3) (aCons (eVar 2) aNil))) (aCons (eCall c__law_small (aCons (eVar 4) (aCons (eVar 2) aNil))) (aCons (eCall c__law_small (aCons (eBin oSub (eBin oSub (eVar 2) (eVar 3)) (eVar 4)) (aCons (eVar 2) aNil))) aNil))))))
  (sRet (eTup (aCons (eVar 1) (aCons (eBin oIx (eVar 5) (eC (.int 0))) (aCons (eBin oIx (eVar 5) (eC (.int 1))) (aCons (eBin oIx (eVar 5) (eC (.int 2))) aNil))))))))))
def c__law_row : List Val → Hea → Res Val := runB 2 6 b__law_row
def b_added : En → Hea → SRes := (sRet (eCall c_fraction (aCons (eBin oAdd (eBin oMul (eBin oIx (eVar 0) (eC (.int 0))) (eBin oIx (eVar 1) (eC (.int 1)))) (eBin oMul (eBin oIx (eVar 1) (eC (.int 0))) (eBin oIx (eVar 0) (eC (.int 1))))) (aCons (eBin oMul (eBin oIx (eVar 0) (eC (.int 1))) (eBin oIx (eVar 1) (eC (.int 1)))) aNil))))
def c_added : List Val → Hea → Res Val := runB 2 2 b_added
def b_less : En → Hea → SRes := (sRet (eCall c_fraction (aCons (eBin oSub (eBin oMul (eBin oIx (eVar 0) (eC (.int 0))) (eBin oIx (eVar 1) (eC (.int 1)))) (eBin oMul (eBin oIx (eVar 1) (eC (.int 0))) (eBin oIx (eVar 0) (eC (.int 1))))) (aCons (eBin oMul (eBin oIx (eVar 0) (eC (.int 1))) (eBin oIx (eVar 1) (eC (.int 1)))) aNil))))
def c_less : List Val → Hea → Res Val := runB 2 2 b_less
def b_multiplied : En → Hea → SRes := (sRet (eCall c_fraction (aCons (eBin oMul (eBin oIx (eVar 0) (eC (.int 0))) (eBin oIx (eVar 1) (eC (.int 0)))) (aCons (eBin oMul (eBin oIx (eVar 0) (eC (.int 1))) (eBin oIx (eVar 1) (eC (.int 1)))) aNil))))
def c_multiplied : List Val → Hea → Res Val := runB 2 2 b_multiplied
def b_is_strength : En → Hea → SRes := (sRet (eCall c_is_integer (aCons (eVar 0) (aCons (eC (.int 0)) (aCons (eC k_MOST_STRENGTH) aNil)))))
def c_is_strength : List Val → Hea → Res Val := runB 1 1 b_is_strength
def b_is_chance_row : En → Hea → SRes := (sSeq (sIf (eOr (eUn oNot (eUn (oIsi [.tuple]) (eVar 0))) (eOr (eBin oNe (eIt gLen (eVar 0)) (eC (.int 4))) (eUn oNot (eCall c_is_strength (aCons (eBin oIx (eVar 0) (eC (.int 0))) aNil))))) (sRet (eC (.bl false))) sNil)
  (sSeq (sIf (eUn oNot (eItL gAll (lComp [1] (iSeq (eCutT (eVar 0) (some (eC (.int 1))) none)) (gN 1) eYes (eAnd (eCall c_is_fraction (aCons (eVar 1) aNil)) (eUn oNot (eCall c_is_above (aCons (eC k_NONE) (aCons (eVar 1) aNil)))))))) (sRet (eC (.bl false))) sNil)
  (sRet (eBin oEq (eCall c_added (aCons (eCall c_added (aCons (eBin oIx (eVar 0) (eC (.int 1))) (aCons (eBin oIx (eVar 0) (eC (.int 2))) aNil))) (aCons (eBin oIx (eVar 0) (eC (.int 3))) aNil))) (eC k_ALL)))))
def c_is_chance_row : List Val → Hea → Res Val := runB 1 2 b_is_chance_row
def l_Chances___call___0 : En → Hea → SRes := (sIf (eUn oNot (eCall c_is_strength (aCons (eVar 3) aNil))) (sRaise 1 (eVar 3)) sNil)
def b_Chances___call__ : En → Hea → SRes := (sSeq (sFor (iSeq (eTup (aCons (eVar 1) (aCons (eVar 2) aNil)))) (gN 3) l_Chances___call___0)
  (sSeq (sSet 4 (eBin oIx (eLst (lComp [4] (iSeq (eFld (Nat.beq 3) 0 (eVar 0))) (gN 4) (eBin oLe (eBin oIx (eVar 4) (eC (.int 0))) (eCB gAbs (aCons (eBin oSub (eVar 1) (eVar 2)) aNil))) (eVar 4))) (eUn oNeg (eC (.int 1)))))
  (sSeq (sIf (eBin oEq (eVar 1) (eVar 2)) (sSeq (sSet 5 (eCall c_multiplied (aCons (eCall c_less (aCons (eC k_ALL) (aCons (eBin oIx (eVar 4) (eC (.int 2))) aNil))) (aCons (eTup (aCons (eC (.int 1)) (aCons (eC (.int 2)) aNil))) aNil))))
  (sRet (eTup (aCons (eVar 5) (aCons (eBin oIx (eVar 4) (eC (.int 2))) (aCons (eVar 5) aNil)))))) sNil)
  (sRet (eIf (eBin oGt (eVar 1) (eVar 2)) (eTup (aCons (eBin oIx (eVar 4) (eC (.int 1))) (aCons (eBin oIx (eVar 4) (eC (.int 2))) (aCons (eBin oIx (eVar 4) (eC (.int 3))) aNil)))) (eTup (aCons (eBin oIx (eVar 4) (eC (.int 3))) (aCons (eBin oIx (eVar 4) (eC (.int 2))) (aCons (eBin oIx (eVar 4) (eC (.int 1))) aNil)))))))))
def c_Chances___call__ : List Val → Hea → Res Val := runB 3 6 b_Chances___call__
def b__law_asked : En → Hea → SRes := (sSeq (sTry1 sub_BadNumber 3 (sEx (eCallO 3 c_Chances___call__ (eVar 0) (aCons (eVar 1) (aCons (eVar 2) aNil)))) (sRet (eCB gReprB (aCons (eUn oExF (eVar 3)) aNil))))
  (sRet (eC .non)))
def c__law_asked : List Val → Hea → Res Val := runB 3 4 b__law_asked
def l_Chances___init___0 : En → Hea → SRes := (sSeq (sIf (eOr (eUn oNot (eCall c_is_chance_row (aCons (eVar 3) aNil))) (eAnd (eBin oEq (eVar 2) (eC (.int 0))) (eBin oNe (eBin oIx (eVar 3) (eC (.int 0))) (eC (.int 0))))) (sRaise 2 (eVar 2)) sNil)
  (sIf (eAnd (eBin oGt (eVar 2) (eC (.int 0))) (eBin oLe (eBin oIx (eVar 3) (eC (.int 0))) (eBin oIx (eBin oIx (eVar 1) (eBin oSub (eVar 2) (eC (.int 1)))) (eC (.int 0))))) (sRaise 2 (eVar 2)) sNil))
def b_Chances___init__ : En → Hea → SRes := (sSeq (sIf (eOr (eUn oNot (eUn (oIsi [.list, .tuple]) (eVar 1))) (eUn oNot (eChain oLe oLe (eC (.int 1)) (eIt gLen (eVar 1)) (eC k_MOST_ROWS)))) (sRaise 2 (eC .non)) sNil)
  (sSeq (sFor (iEnumS (eVar 1)) (gT [2, 3]) l_Chances___init___0)
  (sFldV (Nat.beq 3) 0 (eVar 0) (eIt gTuple (eVar 1)))))
def c_Chances___init__ : List Val → Hea → Res Val := runB 2 4 b_Chances___init__
def b__law_told : En → Hea → SRes := (sSeq (sTry1 sub_BadChances 1 (sEx (eMake 3 c_Chances___init__ (aCons (eVar 0) aNil))) (sRet (eLst (lDisp (aCons (eUn oExF (eVar 1)) (aCons (eUn (oIsX sub_LadderError) (eVar 1)) (aCons (eUn (oIsX sub_ValueError) (eVar 1)) aNil)))))))
  (sRet (eLst (lDisp aNil))))
def c__law_told : List Val → Hea → Res Val := runB 1 2 b__law_told
def l_law_0 : En → Hea → SRes := (sIf (eBin oNe (eCall c__law_told (aCons (eVar 4) aNil)) (eLst (lDisp (aCons (eC .non) (aCons (eC (.bl true)) (aCons (eC (.bl true)) aNil)))))) (sRet (eC (.bl false))) sNil)
def l_law_1 : En → Hea → SRes := (sIf (eBin oNe (eCall c__law_told (aCons (eBin oAdd (eLst (lCut (eVar 3) none (some (eVar 5)))) (eLst (lDisp (aCons (eVar 4) (aCons (eC .non) aNil))))) aNil)) (eLst (lDisp (aCons (eVar 5) (aCons (eC (.bl true)) (aCons (eC (.bl true)) aNil)))))) (sRet (eC (.bl false))) sNil)
def l_law_2 : En → Hea → SRes := (sIf (eBin oNe (eCall c__law_told (aCons (eBin oAdd (eLst (lCut (eVar 3) none (some (eBin oAdd (eVar 5) (eC (.int 1)))))) (eLst (lDisp (aCons (eVar 9) aNil)))) aNil)) (eLst (lDisp (aCons (eBin oAdd (eVar 5) (eC (.int 1))) (aCons (eC (.bl true)) (aCons (eC (.bl true)) aNil)))))) (sRet (eC (.bl false))) sNil)
def l_law_3 : En → Hea → SRes := (sIf (eOr (eBin oNe (eCall c__law_asked (aCons (eVar 10) (aCons (eVar 4) (aCons (eC .non) aNil)))) (eCB gReprB (aCons (eVar 4) aNil))) (eBin oNe (eCall c__law_asked (aCons (eVar 10) (aCons (eC (.int 5)) (aCons (eVar 4) aNil)))) (eCB gReprB (aCons (eVar 4) aNil)))) (sRet (eC (.bl false))) sNil)
def l_law_4 : En → Hea → SRes := (sSeq (sSet 2 (eCall c__law_pool (aCons (eVar 0) (aCons (eVar 1) aNil))))
  (sSeq (sSet 3 (eLst (lComp [7] (iTmp (lDisp (aCons (eC (.int 0)) (aCons (eC (.int 5)) (aCons (eC (.int 6)) (aCons (eC (.int 20)) (aCons (eC (.int 60)) (aCons (eC (.int 99)) aNil)))))))) (gN 7) eYes (eCall c__law_row (aCons (eVar 2) (aCons (eVar 7) aNil))))))
  (sSeq (sIf (eOr (eBin oNe (eCall c__law_told (aCons (eVar 3) aNil)) (eLst (lDisp aNil))) (eBin oNe (eCall c__law_told (aCons (eItL gTuple (lCut (eVar 3) none (some (eC (.int 1))))) aNil)) (eLst (lDisp aNil)))) (sRet (eC (.bl false))) sNil)
  (sSeq (sForK [4] (iTmp (lDisp (aCons (eC .non) (aCons (eC (.int 5)) (aCons (eLst (lDisp aNil)) (aCons (eTup aNil) (aCons (eC (.str "ab")) (aCons eD0 (aCons (eBin oAdd (eVar 3) (eLst (lDisp (aCons (eCall c__law_row (aCons (eVar 2) (aCons (eC (.int 99)) aNil))) aNil)))) aNil))))))))) (gN 4) l_law_0)
  (sSeq (sPar [5, 6] (aCons (eCall c__law_draw (aCons (eVar 2) (aCons (eC (.int 5)) aNil))) (aCons (eTup (aCons (eC (.int 1)) (aCons (eC (.int 2)) aNil))) aNil)))
  (sSeq (sSet 7 (eBin oIx (eBin oIx (eVar 3) (eVar 5)) (eC (.int 0))))
  (sSeq (sSet 8 (eLst (lDisp (aCons (eC .non) (aCons (eTup (aCons (eVar 7) (aCons (eVar 6) (aCons (eVar 6) aNil)))) (aCons (eLst (lDisp (aCons (eVar 7) (aCons (eVar 6) (aCons (eVar 6) (aCons (eTup (aCons (eC (.int 0)) (aCons (eC (.int 1)) aNil))) aNil)))))) (aCons (eTup (aCons (eVar 7) (aCons (eVar 6) (aCons (eVar 6) (aCons (eVar 6) aNil))))) (aCons (eTup (aCons (eVar 7) (aCons (eTup (aCons (eC (.int 1)) (aCons (eC (.int 1)) aNil))) (aCons (eTup (aCons (eC (.int 1)) (aCons (eC (.int 1)) aNil))) (aCons (eTup (aCons (eUn oNeg (eC (.int 1))) (aCons (eC (.int 1)) aNil))) aNil))))) aNil))))))))
  (sSeq (sSet 8 (eBin oAdd (eVar 8) (eLst (lDisp (aCons (eTup (aCons (eVar 7) (aCons (eTup (aCons (eC (.int 2)) (aCons (eC (.int 4)) aNil))) (aCons (eVar 6) (aCons (eTup (aCons (eC (.int 0)) (aCons (eC (.int 1)) aNil))) aNil))))) (aCons (eTup (aCons (eVar 7) (aCons (eC (.int 1)) (aCons (eC (.int 0)) (aCons (eC (.int 0)) aNil))))) (aCons (eTup (aCons (eVar 7) (aCons (eVar 6) (aCons (eTup (aCons (eC (.int 0)) (aCons (eC (.int 1)) aNil))) (aCons (eTup (aCons (eC (.int 1)) (aCons (eUn oNeg (eC (.int 2))) aNil))) aNil))))) (aCons (eTup (aCons (eC .non) (aCons (eVar 6) (aCons (eVar 6) (aCons (eTup (aCons (eC (.int 0)) (aCons (eC (.int 1)) aNil))) aNil))))) aNil))))))))
  (sSeq (sSet 8 (eBin oAdd (eVar 8) (eLst (lDisp (aCons (eTup (aCons (eC (.bl true)) (aCons (eVar 6) (aCons (eVar 6) (aCons (eTup (aCons (eC (.int 0)) (aCons (eC (.int 1)) aNil))) aNil))))) (aCons (eTup (aCons (eC (.int 100)) (aCons (eVar 6) (aCons (eVar 6) (aCons (eTup (aCons (eC (.int 0)) (aCons (eC (.int 1)) aNil))) aNil))))) (aCons (eTup (aCons (eVar 7) (aCons (eLst (lDisp (aCons (eC (.int 1)) (aCons (eC (.int 2)) aNil)))) (aCons (eVar 6) (aCons (eTup (aCons (eC (.int 0)) (aCons (eC (.int 1)) aNil))) aNil))))) aNil)))))))
  (sSeq (sForK [4] (iSeq (eVar 8)) (gN 4) l_law_1)
  (sSeq (sIf (eBin oNe (eCall c__law_told (aCons (eLst (lDisp (aCons (eTup (aCons (eC (.int 1)) (aCons (eVar 6) (aCons (eVar 6) (aCons (eTup (aCons (eC (.int 0)) (aCons (eC (.int 1)) aNil))) aNil))))) aNil))) aNil)) (eLst (lDisp (aCons (eC (.int 0)) (aCons (eC (.bl true)) (aCons (eC (.bl true)) aNil)))))) (sRet (eC (.bl false))) sNil)
  (sSeq (sForK [9] (iTmp (lCut (eVar 3) none (some (eBin oAdd (eVar 5) (eC (.int 1)))))) (gN 9) l_law_2)
  (sSeq (sSet 10 (eMake 3 c_Chances___init__ (aCons (eVar 3) aNil)))
  (sForK [4] (iTmp (lDisp (aCons (eC .non) (aCons (eUn oNeg (eC (.int 1))) (aCons (eC (.int 100)) (aCons (eC (.bl true)) (aCons (eC (.str "5")) aNil))))))) (gN 4) l_law_3))))))))))))))
def b_law : En → Hea → SRes := (sSeq (sForK [1, 2, 3, 4, 5, 6, 7, 8, 9, 10] (iRng1V (aCons (eCB gMax2 (aCons (eC (.int 1)) (aCons (eCB gMin2 (aCons (eIt gLen (eVar 0)) (aCons (eC (.int 2)) aNil))) aNil))) aNil)) (gN 1) l_law_4)
  (sRet (eC (.bl true))))
def c_law : List Val → Hea → Res Val := runB 1 11 b_law
/-- the plain law: every script of at most 63 ints gives True -/
def Plain : Prop := ∀ ns : List Int, ns.length ≤ 63 → ∃ h, c_law [.ref 0] [.fro ns] = .ok (.bl true) h
end K62
end
/-! ## K62A -/
section
set_option maxRecDepth 100000
set_option maxHeartbeats 1000000
namespace K62
open PySem L2 Lad
theorem nmOk0 : ∀ m, m < 100 → ∀ n, n < 100 → nmN m = nmN n → m = n := by decide +kernel
theorem nmOk {K : PySem.W.Frag} : NmOk (TT K) := fun m n hm hn e => nmOk0 m hm n hn e
abbrev e_BadNumber : ErD := ⟨"BadNumber", inClass (top 2) 0, "BadNumber.__init__", "number"⟩
theorem ini_BadNumber : InitOk e_BadNumber.st e_BadNumber.fld := ⟨⟨_, _, _, _, _, _, _, _, _, _, _, _, rfl, fun env => ⟨_, rfl⟩⟩, ⟨_, _, rfl⟩, by decide +kernel, rfl, rfl, rfl, by decide +kernel, by decide +kernel, by decide +kernel, by decide +kernel, by decide +kernel, by decide +kernel⟩
abbrev e_BadChances : ErD := ⟨"BadChances", inClass (top 3) 0, "BadChances.__init__", "index"⟩
theorem ini_BadChances : InitOk e_BadChances.st e_BadChances.fld := ⟨⟨_, _, _, _, _, _, _, _, _, _, _, _, rfl, fun env => ⟨_, rfl⟩⟩, ⟨_, _, rfl⟩, by decide +kernel, rfl, rfl, rfl, by decide +kernel, by decide +kernel, by decide +kernel, by decide +kernel, by decide +kernel, by decide +kernel⟩
structure Txt (P : Program) (K : PySem.W.Frag) (mg : Str → Option Value) : Prop where
  z_ValueError : mg "ValueError" = none
  z_abs : mg "abs" = none
  z_all : mg "all" = none
  z_bool : mg "bool" = none
  z_enumerate : mg "enumerate" = none
  z_int : mg "int" = none
  z_isinstance : mg "isinstance" = none
  z_len : mg "len" = none
  z_list : mg "list" = none
  z_max : mg "max" = none
  z_min : mg "min" = none
  z_range : mg "range" = none
  z_repr : mg "repr" = none
  z_tuple : mg "tuple" = none
  F_is_whole : Fun K "is_whole" "is_whole" (top 6) (He.ga K "is_whole") (fdOf K (He.ga K "is_whole"))
  g_is_whole : mg "is_whole" = some (.ref (He.ga K "is_whole"))
  F_common_divisor : Fun K "common_divisor" "common_divisor" (top 7) (He.ga K "common_divisor") (fdOf K (He.ga K "common_divisor"))
  g_common_divisor : mg "common_divisor" = some (.ref (He.ga K "common_divisor"))
  F_is_above : Fun K "is_above" "is_above" (top 13) (He.ga K "is_above") (fdOf K (He.ga K "is_above"))
  g_is_above : mg "is_above" = some (.ref (He.ga K "is_above"))
  F__law_pool : Fun K "_law_pool" "_law_pool" (top 23) (He.ga K "_law_pool") (fdOf K (He.ga K "_law_pool"))
  g__law_pool : mg "_law_pool" = some (.ref (He.ga K "_law_pool"))
  F__law_draw : Fun K "_law_draw" "_law_draw" (top 24) (He.ga K "_law_draw") (fdOf K (He.ga K "_law_draw"))
  g__law_draw : mg "_law_draw" = some (.ref (He.ga K "_law_draw"))
  F__law_small : Fun K "_law_small" "_law_small" (top 26) (He.ga K "_law_small") (fdOf K (He.ga K "_law_small"))
  g__law_small : mg "_law_small" = some (.ref (He.ga K "_law_small"))
  F_is_integer : Fun K "is_integer" "is_integer" (top 5) (He.ga K "is_integer") (fdOf K (He.ga K "is_integer"))
  g_is_integer : mg "is_integer" = some (.ref (He.ga K "is_integer"))
  F_is_fraction : Fun K "is_fraction" "is_fraction" (top 8) (He.ga K "is_fraction") (fdOf K (He.ga K "is_fraction"))
  g_is_fraction : mg "is_fraction" = some (.ref (He.ga K "is_fraction"))
  F_fraction : Fun K "fraction" "fraction" (top 9) (He.ga K "fraction") (fdOf K (He.ga K "fraction"))
  g_fraction : mg "fraction" = some (.ref (He.ga K "fraction"))
  F__law_row : Fun K "_law_row" "_law_row" (top 27) (He.ga K "_law_row") (fdOf K (He.ga K "_law_row"))
  g__law_row : mg "_law_row" = some (.ref (He.ga K "_law_row"))
  F_added : Fun K "added" "added" (top 10) (He.ga K "added") (fdOf K (He.ga K "added"))
  g_added : mg "added" = some (.ref (He.ga K "added"))
  F_less : Fun K "less" "less" (top 11) (He.ga K "less") (fdOf K (He.ga K "less"))
  g_less : mg "less" = some (.ref (He.ga K "less"))
  F_multiplied : Fun K "multiplied" "multiplied" (top 12) (He.ga K "multiplied") (fdOf K (He.ga K "multiplied"))
  g_multiplied : mg "multiplied" = some (.ref (He.ga K "multiplied"))
  F_is_strength : Fun K "is_strength" "is_strength" (top 19) (He.ga K "is_strength") (fdOf K (He.ga K "is_strength"))
  g_is_strength : mg "is_strength" = some (.ref (He.ga K "is_strength"))
  F_is_chance_row : Fun K "is_chance_row" "is_chance_row" (top 20) (He.ga K "is_chance_row") (fdOf K (He.ga K "is_chance_row"))
  g_is_chance_row : mg "is_chance_row" = some (.ref (He.ga K "is_chance_row"))
  F_Chances___call__ : Fun K "__call__" "Chances.__call__" (inClass (top 21) 5) (He.ma K (He.ga K "Chances") "__call__") (fdOf K (He.ma K (He.ga K "Chances") "__call__"))
  F__law_asked : Fun K "_law_asked" "_law_asked" (top 29) (He.ga K "_law_asked") (fdOf K (He.ga K "_law_asked"))
  g__law_asked : mg "_law_asked" = some (.ref (He.ga K "_law_asked"))
  F_Chances___init__ : Fun K "__init__" "Chances.__init__" (inClass (top 21) 0) (He.ma K (He.ga K "Chances") "__init__") (fdOf K (He.ma K (He.ga K "Chances") "__init__"))
  F__law_told : Fun K "_law_told" "_law_told" (top 28) (He.ga K "_law_told") (fdOf K (He.ga K "_law_told"))
  g__law_told : mg "_law_told" = some (.ref (He.ga K "_law_told"))
  F_law : Fun K "law" "law" (top 30) (He.ga K "law") (fdOf K (He.ga K "law"))
  g_law : mg "law" = some (.ref (He.ga K "law"))
  nl : noList K = true
  con_ALL : ConOk K mg "ALL" k_ALL
  con_MOST_ROWS : ConOk K mg "MOST_ROWS" k_MOST_ROWS
  con_MOST_STRENGTH : ConOk K mg "MOST_STRENGTH" k_MOST_STRENGTH
  con_NONE : ConOk K mg "NONE" k_NONE
  g_LadderError : mg "LadderError" = some (.ref ((TT K).ca 0))
  g_BadNumber : mg "BadNumber" = some (.ref ((TT K).ca 1))
  g_BadChances : mg "BadChances" = some (.ref ((TT K).ca 2))
  g_Chances : mg "Chances" = some (.ref ((TT K).ca 3))
  er_BadNumber : ExTxt P K e_BadNumber.st ((TT K).ca 1) (erI K e_BadNumber) (erCc K e_BadNumber) (erCda K e_BadNumber) (fdOf K (erI K e_BadNumber)) "ValueError" "ValueError.__new__" "ValueError.__init__" He.veBase ((TT K).fld 1)
  xf_1 : XfC K ((TT K).ca 1) ∧ ExcC K ((TT K).ca 1)
  no_1 : PySem.W.findIn K (.ref ((TT K).ca 1)) "number" = some none
  er_BadChances : ExTxt P K e_BadChances.st ((TT K).ca 2) (erI K e_BadChances) (erCc K e_BadChances) (erCda K e_BadChances) (fdOf K (erI K e_BadChances)) "ValueError" "ValueError.__new__" "ValueError.__init__" He.veBase ((TT K).fld 2)
  xf_2 : XfC K ((TT K).ca 2) ∧ ExcC K ((TT K).ca 2)
  no_2 : PySem.W.findIn K (.ref ((TT K).ca 2)) "index" = some none
  exm_1_BadChances : PySem.W.exmOne K (.ref ((TT K).ca 1)) (.ref ((TT K).ca 2)) = some false
  exm_1_BadNumber : PySem.W.exmOne K (.ref ((TT K).ca 1)) (.ref ((TT K).ca 1)) = some true
  exm_2_BadChances : PySem.W.exmOne K (.ref ((TT K).ca 2)) (.ref ((TT K).ca 2)) = some true
  exm_2_BadNumber : PySem.W.exmOne K (.ref ((TT K).ca 2)) (.ref ((TT K).ca 1)) = some false
  kit_2_LadderError : PySem.W.kitOne K (.ref ((TT K).ca 2)) (.ref ((TT K).ca 0)) = some true
  kit_2_ValueError : PySem.W.kitOne K (.ref ((TT K).ca 2)) (.type "ValueError") = some true
  own_Chances : OwnC K ((TT K).ca 3)
  na_Chances_own_rows : NoAttr K ((TT K).ca 3) "own_rows"
  mk_Chances : Mk K ((TT K).ca 3) (He.ma K (He.ga K "Chances") "__init__")
  du_Chances___call__ : Dun K ((TT K).ca 3) "__call__" (He.ma K (He.ga K "Chances") "__call__")
section
variable {P : Program} {w : World} {K : PySem.W.Frag} {mg : Str → Option Value} {base : Heap}
end
abbrev N_is_whole : List Str := ["value"]
theorem sc_is_whole : FnScope N_is_whole ["value"] (defScope (top 6)) := ⟨rfl, rfl, rfl, by decide +kernel, rfl, by decide +kernel, by decide +kernel⟩
abbrev N_common_divisor : List Str := ["one", "other"]
theorem sc_common_divisor : FnScope N_common_divisor ["one", "other"] (defScope (top 7)) := ⟨rfl, rfl, rfl, by decide +kernel, rfl, by decide +kernel, by decide +kernel⟩
abbrev N_is_above : List Str := ["one", "other"]
theorem sc_is_above : FnScope N_is_above ["one", "other"] (defScope (top 13)) := ⟨rfl, rfl, rfl, by decide +kernel, rfl, by decide +kernel, by decide +kernel⟩
abbrev N__law_pool : List Str := ["_law_script", "_law_k", "_law_size", "_law_mixed"]
theorem sc__law_pool : FnScope N__law_pool ["_law_script", "_law_k"] (defScope (top 23)) := ⟨rfl, rfl, rfl, by decide +kernel, rfl, by decide +kernel, by decide +kernel⟩
abbrev N__law_draw : List Str := ["_law_pool_here", "_law_many", "_law_found"]
theorem sc__law_draw : FnScope N__law_draw ["_law_pool_here", "_law_many"] (defScope (top 24)) := ⟨rfl, rfl, rfl, by decide +kernel, rfl, by decide +kernel, by decide +kernel⟩
abbrev N__law_small : List Str := ["_law_over", "_law_under", "_law_one", "_law_other", "_law_turn"]
theorem sc__law_small : FnScope N__law_small ["_law_over", "_law_under"] (defScope (top 26)) := ⟨rfl, rfl, rfl, by decide +kernel, rfl, by decide +kernel, by decide +kernel⟩
abbrev N_is_integer : List Str := ["value", "lowest", "highest"]
theorem sc_is_integer : FnScope N_is_integer ["value", "lowest", "highest"] (defScope (top 5)) := ⟨rfl, rfl, rfl, by decide +kernel, rfl, by decide +kernel, by decide +kernel⟩
abbrev N_is_fraction : List Str := ["value", "part"]
theorem sc_is_fraction : FnScope N_is_fraction ["value"] (defScope (top 8)) := ⟨rfl, rfl, rfl, by decide +kernel, rfl, by decide +kernel, by decide +kernel⟩
abbrev N_fraction : List Str := ["over", "under", "divisor"]
theorem sc_fraction : FnScope N_fraction ["over", "under"] (defScope (top 9)) := ⟨rfl, rfl, rfl, by decide +kernel, rfl, by decide +kernel, by decide +kernel⟩
abbrev N__law_row : List Str := ["_law_pool_here", "_law_border", "_law_under", "_law_first", "_law_second", "_law_some"]
theorem sc__law_row : FnScope N__law_row ["_law_pool_here", "_law_border"] (defScope (top 27)) := ⟨rfl, rfl, rfl, by decide +kernel, rfl, by decide +kernel, by decide +kernel⟩
abbrev N_added : List Str := ["one", "other"]
theorem sc_added : FnScope N_added ["one", "other"] (defScope (top 10)) := ⟨rfl, rfl, rfl, by decide +kernel, rfl, by decide +kernel, by decide +kernel⟩
abbrev N_less : List Str := ["one", "other"]
theorem sc_less : FnScope N_less ["one", "other"] (defScope (top 11)) := ⟨rfl, rfl, rfl, by decide +kernel, rfl, by decide +kernel, by decide +kernel⟩
abbrev N_multiplied : List Str := ["one", "other"]
theorem sc_multiplied : FnScope N_multiplied ["one", "other"] (defScope (top 12)) := ⟨rfl, rfl, rfl, by decide +kernel, rfl, by decide +kernel, by decide +kernel⟩
abbrev N_is_strength : List Str := ["value"]
theorem sc_is_strength : FnScope N_is_strength ["value"] (defScope (top 19)) := ⟨rfl, rfl, rfl, by decide +kernel, rfl, by decide +kernel, by decide +kernel⟩
abbrev N_is_chance_row : List Str := ["value", "part"]
theorem sc_is_chance_row : FnScope N_is_chance_row ["value"] (defScope (top 20)) := ⟨rfl, rfl, rfl, by decide +kernel, rfl, by decide +kernel, by decide +kernel⟩
abbrev N_Chances___call__ : List Str := ["self", "one", "other", "value", "row", "half"]
theorem sc_Chances___call__ : FnScope N_Chances___call__ ["self", "one", "other"] (defScope (inClass (top 21) 5)) := ⟨rfl, rfl, rfl, by decide +kernel, rfl, by decide +kernel, by decide +kernel⟩
abbrev N__law_asked : List Str := ["_law_chances", "_law_one", "_law_other", "e"]
theorem sc__law_asked : FnScope N__law_asked ["_law_chances", "_law_one", "_law_other"] (defScope (top 29)) := ⟨rfl, rfl, rfl, by decide +kernel, rfl, by decide +kernel, by decide +kernel⟩
abbrev N_Chances___init__ : List Str := ["self", "rows", "index", "row"]
theorem sc_Chances___init__ : FnScope N_Chances___init__ ["self", "rows"] (defScope (inClass (top 21) 0)) := ⟨rfl, rfl, rfl, by decide +kernel, rfl, by decide +kernel, by decide +kernel⟩
abbrev N__law_told : List Str := ["_law_rows", "e"]
theorem sc__law_told : FnScope N__law_told ["_law_rows"] (defScope (top 28)) := ⟨rfl, rfl, rfl, by decide +kernel, rfl, by decide +kernel, by decide +kernel⟩
abbrev N_law : List Str := ["_law_script", "_law_k", "_law_pool_here", "_law_good", "_law_odd", "_law_at", "_law_half", "_law_border", "_law_bad", "_law_earlier", "_law_chances"]
theorem sc_law : FnScope N_law ["_law_script"] (defScope (top 30)) := ⟨rfl, rfl, rfl, by decide +kernel, rfl, by decide +kernel, by decide +kernel⟩
section
variable {P : Program} {w : World} {K : PySem.W.Frag} {mg : Str → Option Value} {base : Heap}
theorem ok_is_whole (t : Txt P K mg) : FnOk P w K mg base (L2.CX P w) 1 (He.ga K "is_whole") (fdOf K (He.ga K "is_whole")) ["value"] (spEv ⟨K, (TT K).ca, (TT K).nm, (TT K).fld, (TT K).ex⟩ c_is_whole) :=
  fn_ok (T := TT K) fin_ok t.F_is_whole sc_is_whole fun cdv A outer s H E hr => (ss_one (st_ret (se_and (se_isi (b := .int) rfl t.z_isinstance (se_var (pv 0)) (ty_of t.z_int (by decide +kernel))) (se_one (se_not (se_isi (b := .bool) rfl t.z_isinstance (se_var (pv 0)) (ty_of t.z_bool (by decide +kernel))))))))
theorem ok_common_divisor (t : Txt P K mg) : FnOk P w K mg base (L2.CX P w) 1 (He.ga K "common_divisor") (fdOf K (He.ga K "common_divisor")) ["one", "other"] (spEv ⟨K, (TT K).ca, (TT K).nm, (TT K).fld, (TT K).ex⟩ c_common_divisor) :=
  fn_ok (T := TT K) fin_ok t.F_common_divisor sc_common_divisor fun cdv A outer s H E hr => (ss_cons (st_par2 (i := 0) (j := 1) rfl sc_common_divisor.nd rfl rfl (by decide) rfl rfl (sa_cons (se_cb g_abs t.z_abs (by decide +kernel) (sa_cons (se_var (pv 0)) sa_nil)) (sa_cons (se_cb g_abs t.z_abs (by decide +kernel) (sa_cons (se_var (pv 1)) sa_nil)) sa_nil)) (by rfl))
  (ss_cons (st_while 5000 (passes_of rfl) (st_cmp o_gt (se_var (pv 1)) se_int (nomark _)) (ss_one (st_par2 (i := 0) (j := 1) rfl sc_common_divisor.nd rfl rfl (by decide) rfl rfl (sa_cons (se_var (pv 1)) (sa_cons (se_bin o_mod (se_ct g_int t.z_int (by decide +kernel) (sa_cons (se_var (pv 0)) sa_nil)) (se_ct g_int t.z_int (by decide +kernel) (sa_cons (se_var (pv 1)) sa_nil))) sa_nil)) (by rfl))))
  (ss_one (st_ret (se_var (pv 0))))))
theorem ok_is_above (t : Txt P K mg) : FnOk P w K mg base (L2.CX P w) 1 (He.ga K "is_above") (fdOf K (He.ga K "is_above")) ["one", "other"] (spEv ⟨K, (TT K).ca, (TT K).nm, (TT K).fld, (TT K).ex⟩ c_is_above) :=
  fn_ok (T := TT K) fin_ok t.F_is_above sc_is_above fun cdv A outer s H E hr => (ss_one (st_ret (se_cmp o_gt (se_bin o_mul (se_ix (se_var (pv 0)) se_int) (se_ix (se_var (pv 1)) se_int)) (se_bin o_mul (se_ix (se_var (pv 1)) se_int) (se_ix (se_var (pv 0)) se_int)) (nomark _))))
theorem ok__law_pool (t : Txt P K mg) : FnOk P w K mg base (L2.CX P w) 1 (He.ga K "_law_pool") (fdOf K (He.ga K "_law_pool")) ["_law_script", "_law_k"] (spEv ⟨K, (TT K).ca, (TT K).nm, (TT K).fld, (TT K).ex⟩ c__law_pool) :=
  fn_ok (T := TT K) finK_ok t.F__law_pool sc__law_pool fun cdv A outer s H E hr => (ss_cons (st_set (i := 2) sc__law_pool.nd rfl (Or.inl rfl) (se_if (st_cmp o_lt (se_var (pv 1)) (se_it g_len t.z_len (by decide +kernel) (se_var (pv 0))) (nomark _)) (se_cb (g_max2 rfl) t.z_max (by decide +kernel) (sa_cons (se_ct g_int t.z_int (by decide +kernel) (sa_cons (se_ix (se_var (pv 0)) (se_var (pv 1))) sa_nil)) (sa_cons (se_ct g_int t.z_int (by decide +kernel) (sa_cons (se_bin o_sub (se_un o_neg se_int) (se_ix (se_var (pv 0)) (se_var (pv 1)))) sa_nil)) sa_nil))) se_int))
  (ss_cons (st_set (i := 3) sc__law_pool.nd rfl (Or.inl rfl) (se_bin o_add (se_bin o_mod (se_ct g_int t.z_int (by decide +kernel) (sa_cons (se_bin o_mul (se_bin o_add (se_bin o_mod (se_ct g_int t.z_int (by decide +kernel) (sa_cons (se_var (pv 2)) sa_nil)) se_int) (se_bin o_mul se_int (se_bin o_add (se_var (pv 1)) se_int))) se_int) sa_nil)) se_int) se_int))
  (ss_one (st_ret (se_new (sl_lst (sa_cons (se_bin o_mul (se_var (pv 2)) (se_ct g_int t.z_int (by decide +kernel) (sa_cons (se_cmp o_ge (se_var (pv 2)) (se_bin o_pow se_int se_int) (nomark _)) sa_nil))) (sa_cons (se_bin o_mod (se_ct g_int t.z_int (by decide +kernel) (sa_cons (se_bin o_mul (se_var (pv 3)) (se_var (pv 3))) sa_nil)) se_int) sa_nil))))))))
theorem ok__law_draw (t : Txt P K mg) : FnOk P w K mg base (L2.CX P w) 1 (He.ga K "_law_draw") (fdOf K (He.ga K "_law_draw")) ["_law_pool_here", "_law_many"] (spEv ⟨K, (TT K).ca, (TT K).nm, (TT K).fld, (TT K).ex⟩ c__law_draw) :=
  fn_ok (T := TT K) fin_ok t.F__law_draw sc__law_draw fun cdv A outer s H E hr => (ss_cons (st_if (st_cmp o_gt (se_ix (se_var (pv 0)) se_int) se_int (nomark _)) (ss_cons (st_set (i := 2) sc__law_draw.nd rfl (Or.inl rfl) (se_bin o_mod (se_ct g_int t.z_int (by decide +kernel) (sa_cons (se_ix (se_var (pv 0)) se_int) sa_nil)) (se_var (pv 1))))
  (ss_cons (st_setIx (se_bin o_div (se_ix (se_var (pv 0)) se_int) (se_var (pv 1))) (se_var (pv 0)) se_int)
  (ss_one (st_ret (se_var (pv 2)))))) ss_nil)
  (ss_cons (st_setIx (se_bin o_mod (se_ct g_int t.z_int (by decide +kernel) (sa_cons (se_bin o_add (se_bin o_mul (se_ix (se_var (pv 0)) se_int) se_int) se_int) sa_nil)) se_int) (se_var (pv 0)) se_int)
  (ss_one (st_ret (se_bin o_mod (se_ct g_int t.z_int (by decide +kernel) (sa_cons (se_bin o_div (se_bin o_mod (se_ct g_int t.z_int (by decide +kernel) (sa_cons (se_bin o_mul (se_ix (se_var (pv 0)) se_int) (se_ix (se_var (pv 0)) se_int)) sa_nil)) se_int) se_int) sa_nil)) (se_var (pv 1)))))))
theorem ok__law_small (t : Txt P K mg) : FnOk P w K mg base (L2.CX P w) 1 (He.ga K "_law_small") (fdOf K (He.ga K "_law_small")) ["_law_over", "_law_under"] (spEv ⟨K, (TT K).ca, (TT K).nm, (TT K).fld, (TT K).ex⟩ c__law_small) :=
  fn_ok (T := TT K) fin_ok t.F__law_small sc__law_small fun cdv A outer s H E hr => (ss_cons (st_par2 (i := 2) (j := 3) rfl sc__law_small.nd rfl rfl (by decide) rfl rfl (sa_cons (se_cb g_abs t.z_abs (by decide +kernel) (sa_cons (se_var (pv 0)) sa_nil)) (sa_cons (se_cb g_abs t.z_abs (by decide +kernel) (sa_cons (se_var (pv 1)) sa_nil)) sa_nil)) (by rfl))
  (ss_cons (st_for (passes_of rfl) rfl (si_range1 rfl t.z_range (sa_cons se_int sa_nil)) (pg_name (i := 4) sc__law_small.nd rfl (Or.inl rfl)) (gok_name (vs := [4]) (by simp)) (ss_one (st_if (st_cmp o_gt (se_var (pv 3)) se_int (nomark _)) (ss_one (st_par2 (i := 2) (j := 3) rfl sc__law_small.nd rfl rfl (by decide) rfl rfl (sa_cons (se_var (pv 3)) (sa_cons (se_bin o_mod (se_ct g_int t.z_int (by decide +kernel) (sa_cons (se_var (pv 2)) sa_nil)) (se_ct g_int t.z_int (by decide +kernel) (sa_cons (se_var (pv 3)) sa_nil))) sa_nil)) (by rfl))) ss_nil)))
  (ss_one (st_ret (se_tup (sa_cons (se_bin o_div (se_var (pv 0)) (se_var (pv 2))) (sa_cons (se_bin o_div (se_var (pv 1)) (se_var (pv 2))) sa_nil)))))))
theorem ok_is_integer (t : Txt P K mg) : FnOk P w K mg base (L2.CX P w) 2 (He.ga K "is_integer") (fdOf K (He.ga K "is_integer")) ["value", "lowest", "highest"] (spEv ⟨K, (TT K).ca, (TT K).nm, (TT K).fld, (TT K).ex⟩ c_is_integer) :=
  fn_ok (T := TT K) fin_ok t.F_is_integer sc_is_integer fun cdv A outer s H E hr => (ss_one (st_ret (se_and (se_call (ok_is_whole t) (hr.mono (by decide)) rfl t.g_is_whole t.F_is_whole.kp (t.F_is_whole.binds fun _ _ _ _ _ _ us hl => match us, hl with | [_], _ => rfl) (takes_of rfl rfl rfl rfl) (sa_cons (se_var (pv 0)) sa_nil)) (se_one (se_chain2 o_le o_le (se_var (pv 1)) (se_var (pv 0)) (se_var (pv 2)))))))
theorem ok_is_fraction (t : Txt P K mg) : FnOk P w K mg base (L2.CX P w) 2 (He.ga K "is_fraction") (fdOf K (He.ga K "is_fraction")) ["value"] (spEv ⟨K, (TT K).ca, (TT K).nm, (TT K).fld, (TT K).ex⟩ c_is_fraction) :=
  fn_ok (T := TT K) fin_ok t.F_is_fraction sc_is_fraction fun cdv A outer s H E hr => (ss_cons (st_if (st_bool (sw_or (st_not (st_val (se_isi (b := .tuple) rfl t.z_isinstance (se_var (pv 0)) (ty_of t.z_tuple (by decide +kernel))))) (sw_or (st_cmp (o_ne hr.units) (se_it g_len t.z_len (by decide +kernel) (se_var (pv 0))) se_int (nomark _)) (sw_oneO (st_not (st_val (se_ilL (g_all rfl) t.z_all (by decide +kernel) (sl_comp (own := [("part", 1)]) (b := (gN 1)) rfl sc_is_fraction.nd (si_seq (se_var (pv 0))) (blkOk_by (own := [("part", 1)]) (N := N_is_fraction) (sc := defScope (top 8)) (by decide +kernel)) (fun _ _ _ _ _ => (pg_name (i := 1) sc_is_fraction.nd rfl (Or.inl rfl))) (gok_name (vs := [1]) (by simp)) (fun _ _ _ _ _ => sts_nil) (fun _ _ _ _ _ => (se_call (ok_is_whole t) (hr.mono (by decide)) rfl t.g_is_whole t.F_is_whole.kp (t.F_is_whole.binds fun _ _ _ _ _ _ us hl => match us, hl with | [_], _ => rfl) takes0 (sa_cons (se_var (pv 1)) sa_nil))))))))))) (ss_one (st_ret se_bl)) ss_nil)
  (ss_one (st_ret (se_and (se_cmp o_gt (se_ix (se_var (pv 0)) se_int) se_int (nomark _)) (se_one (se_cmp (o_eq hr.units) (se_call (ok_common_divisor t) (hr.mono (by decide)) rfl t.g_common_divisor t.F_common_divisor.kp (t.F_common_divisor.binds fun _ _ _ _ _ _ us hl => match us, hl with | [_, _], _ => rfl) (takes_of rfl rfl rfl rfl) (sa_cons (se_ix (se_var (pv 0)) se_int) (sa_cons (se_ix (se_var (pv 0)) se_int) sa_nil))) se_int (nomark _)))))))
theorem ok_fraction (t : Txt P K mg) : FnOk P w K mg base (L2.CX P w) 2 (He.ga K "fraction") (fdOf K (He.ga K "fraction")) ["over", "under"] (spEv ⟨K, (TT K).ca, (TT K).nm, (TT K).fld, (TT K).ex⟩ c_fraction) :=
  fn_ok (T := TT K) fin_ok t.F_fraction sc_fraction fun cdv A outer s H E hr => (ss_cons (st_if (st_cmp (o_eq hr.units) (se_var (pv 1)) se_int (nomark _)) (ss_one (st_raise (c := 1) rfl t.er_BadNumber hr t.g_BadNumber (takes_of rfl rfl rfl rfl) (se_var (pv 1)))) ss_nil)
  (ss_cons (st_set (i := 2) sc_fraction.nd rfl (Or.inl rfl) (se_if (st_cmp o_gt (se_var (pv 1)) se_int (nomark _)) (se_call (ok_common_divisor t) (hr.mono (by decide)) rfl t.g_common_divisor t.F_common_divisor.kp (t.F_common_divisor.binds fun _ _ _ _ _ _ us hl => match us, hl with | [_, _], _ => rfl) (takes_of rfl rfl rfl rfl) (sa_cons (se_var (pv 0)) (sa_cons (se_var (pv 1)) sa_nil))) (se_un o_neg (se_call (ok_common_divisor t) (hr.mono (by decide)) rfl t.g_common_divisor t.F_common_divisor.kp (t.F_common_divisor.binds fun _ _ _ _ _ _ us hl => match us, hl with | [_, _], _ => rfl) (takes_of rfl rfl rfl rfl) (sa_cons (se_var (pv 0)) (sa_cons (se_var (pv 1)) sa_nil))))))
  (ss_one (st_ret (se_tup (sa_cons (se_bin o_div (se_var (pv 0)) (se_var (pv 2))) (sa_cons (se_bin o_div (se_var (pv 1)) (se_var (pv 2))) sa_nil)))))))
theorem ok__law_row (t : Txt P K mg) : FnOk P w K mg base (L2.CX P w) 2 (He.ga K "_law_row") (fdOf K (He.ga K "_law_row")) ["_law_pool_here", "_law_border"] (spEv ⟨K, (TT K).ca, (TT K).nm, (TT K).fld, (TT K).ex⟩ c__law_row) :=
  fn_ok (T := TT K) fin_ok t.F__law_row sc__law_row fun cdv A outer s H E hr => (ss_cons (st_set (i := 2) sc__law_row.nd rfl (Or.inl rfl) (se_bin o_add se_int (se_call (ok__law_draw t) (hr.mono (by decide)) rfl t.g__law_draw t.F__law_draw.kp (t.F__law_draw.binds fun _ _ _ _ _ _ us hl => match us, hl with | [_, _], _ => rfl) (takes_of rfl rfl rfl rfl) (sa_cons (se_var (pv 0)) (sa_cons se_int sa_nil)))))
  (ss_cons (st_set (i := 3) sc__law_row.nd rfl (Or.inl rfl) (se_call (ok__law_draw t) (hr.mono (by decide)) rfl t.g__law_draw t.F__law_draw.kp (t.F__law_draw.binds fun _ _ _ _ _ _ us hl => match us, hl with | [_, _], _ => rfl) (takes_of rfl rfl rfl rfl) (sa_cons (se_var (pv 0)) (sa_cons (se_bin o_add (se_var (pv 2)) se_int) sa_nil))))
  (ss_cons (st_set (i := 4) sc__law_row.nd rfl (Or.inl rfl) (se_call (ok__law_draw t) (hr.mono (by decide)) rfl t.g__law_draw t.F__law_draw.kp (t.F__law_draw.binds fun _ _ _ _ _ _ us hl => match us, hl with | [_, _], _ => rfl) (takes_of rfl rfl rfl rfl) (sa_cons (se_var (pv 0)) (sa_cons (se_bin o_add (se_bin o_sub (se_var (pv 2)) (se_var (pv 3))) se_int) sa_nil))))
  (ss_cons (st_set (i := 5) sc__law_row.nd rfl (Or.inl rfl) (se_lst (sl_lst (sa_cons (se_call (ok__law_small t) (hr.mono (by decide)) rfl t.g__law_small t.F__law_small.kp (t.F__law_small.binds fun _ _ _ _ _ _ us hl => match us, hl with | [_, _], _ => rfl) (takes_of rfl rfl rfl rfl) (sa_cons (se_var (pv 3)) (sa_cons (se_var (pv 2)) sa_nil))) (sa_cons (se_call (ok__law_small t) (hr.mono (by decide)) rfl t.g__law_small t.F__law_small.kp (t.F__law_small.binds fun _ _ _ _ _ _ us hl => match us, hl with | [_, _], _ => rfl) (takes_of rfl rfl rfl rfl) (sa_cons (se_var (pv 4)) (sa_cons (se_var (pv 2)) sa_nil))) (sa_cons (se_call (ok__law_small t) (hr.mono (by decide)) rfl t.g__law_small t.F__law_small.kp (t.F__law_small.binds fun _ _ _ _ _ _ us hl => match us, hl with | [_, _], _ => rfl) (takes_of rfl rfl rfl rfl) (sa_cons (se_bin o_sub (se_bin o_sub (se_var (pv 2)) (se_var (pv 3))) (se_var (pv 4))) (sa_cons (se_var (pv 2)) sa_nil))) sa_nil))))))
  (ss_one (st_ret (se_tup (sa_cons (se_var (pv 1)) (sa_cons (se_ix (se_var (pv 5)) se_int) (sa_cons (se_ix (se_var (pv 5)) se_int) (sa_cons (se_ix (se_var (pv 5)) se_int) sa_nil)))))))))))
theorem ok_added (t : Txt P K mg) : FnOk P w K mg base (L2.CX P w) 3 (He.ga K "added") (fdOf K (He.ga K "added")) ["one", "other"] (spEv ⟨K, (TT K).ca, (TT K).nm, (TT K).fld, (TT K).ex⟩ c_added) :=
  fn_ok (T := TT K) fin_ok t.F_added sc_added fun cdv A outer s H E hr => (ss_one (st_ret (se_call (ok_fraction t) (hr.mono (by decide)) rfl t.g_fraction t.F_fraction.kp (t.F_fraction.binds fun _ _ _ _ _ _ us hl => match us, hl with | [_, _], _ => rfl) (takes_of rfl rfl rfl rfl) (sa_cons (se_bin o_add (se_bin o_mul (se_ix (se_var (pv 0)) se_int) (se_ix (se_var (pv 1)) se_int)) (se_bin o_mul (se_ix (se_var (pv 1)) se_int) (se_ix (se_var (pv 0)) se_int))) (sa_cons (se_bin o_mul (se_ix (se_var (pv 0)) se_int) (se_ix (se_var (pv 1)) se_int)) sa_nil)))))
theorem ok_less (t : Txt P K mg) : FnOk P w K mg base (L2.CX P w) 3 (He.ga K "less") (fdOf K (He.ga K "less")) ["one", "other"] (spEv ⟨K, (TT K).ca, (TT K).nm, (TT K).fld, (TT K).ex⟩ c_less) :=
  fn_ok (T := TT K) fin_ok t.F_less sc_less fun cdv A outer s H E hr => (ss_one (st_ret (se_call (ok_fraction t) (hr.mono (by decide)) rfl t.g_fraction t.F_fraction.kp (t.F_fraction.binds fun _ _ _ _ _ _ us hl => match us, hl with | [_, _], _ => rfl) (takes_of rfl rfl rfl rfl) (sa_cons (se_bin o_sub (se_bin o_mul (se_ix (se_var (pv 0)) se_int) (se_ix (se_var (pv 1)) se_int)) (se_bin o_mul (se_ix (se_var (pv 1)) se_int) (se_ix (se_var (pv 0)) se_int))) (sa_cons (se_bin o_mul (se_ix (se_var (pv 0)) se_int) (se_ix (se_var (pv 1)) se_int)) sa_nil)))))
theorem ok_multiplied (t : Txt P K mg) : FnOk P w K mg base (L2.CX P w) 3 (He.ga K "multiplied") (fdOf K (He.ga K "multiplied")) ["one", "other"] (spEv ⟨K, (TT K).ca, (TT K).nm, (TT K).fld, (TT K).ex⟩ c_multiplied) :=
  fn_ok (T := TT K) fin_ok t.F_multiplied sc_multiplied fun cdv A outer s H E hr => (ss_one (st_ret (se_call (ok_fraction t) (hr.mono (by decide)) rfl t.g_fraction t.F_fraction.kp (t.F_fraction.binds fun _ _ _ _ _ _ us hl => match us, hl with | [_, _], _ => rfl) (takes_of rfl rfl rfl rfl) (sa_cons (se_bin o_mul (se_ix (se_var (pv 0)) se_int) (se_ix (se_var (pv 1)) se_int)) (sa_cons (se_bin o_mul (se_ix (se_var (pv 0)) se_int) (se_ix (se_var (pv 1)) se_int)) sa_nil)))))
theorem ok_is_strength (t : Txt P K mg) : FnOk P w K mg base (L2.CX P w) 3 (He.ga K "is_strength") (fdOf K (He.ga K "is_strength")) ["value"] (spEv ⟨K, (TT K).ca, (TT K).nm, (TT K).fld, (TT K).ex⟩ c_is_strength) :=
  fn_ok (T := TT K) fin_ok t.F_is_strength sc_is_strength fun cdv A outer s H E hr => (ss_one (st_ret (se_call (ok_is_integer t) (hr.mono (by decide)) rfl t.g_is_integer t.F_is_integer.kp (t.F_is_integer.binds fun _ _ _ _ _ _ us hl => match us, hl with | [_, _, _], _ => rfl) (takes_of rfl rfl rfl rfl) (sa_cons (se_var (pv 0)) (sa_cons se_int (sa_cons (se_con t.con_MOST_STRENGTH) sa_nil))))))
theorem ok_is_chance_row (t : Txt P K mg) : FnOk P w K mg base (L2.CX P w) 4 (He.ga K "is_chance_row") (fdOf K (He.ga K "is_chance_row")) ["value"] (spEv ⟨K, (TT K).ca, (TT K).nm, (TT K).fld, (TT K).ex⟩ c_is_chance_row) :=
  fn_ok (T := TT K) fin_ok t.F_is_chance_row sc_is_chance_row fun cdv A outer s H E hr => (ss_cons (st_if (st_bool (sw_or (st_not (st_val (se_isi (b := .tuple) rfl t.z_isinstance (se_var (pv 0)) (ty_of t.z_tuple (by decide +kernel))))) (sw_or (st_cmp (o_ne hr.units) (se_it g_len t.z_len (by decide +kernel) (se_var (pv 0))) se_int (nomark _)) (sw_oneO (st_not (st_val (se_call (ok_is_strength t) (hr.mono (by decide)) rfl t.g_is_strength t.F_is_strength.kp (t.F_is_strength.binds fun _ _ _ _ _ _ us hl => match us, hl with | [_], _ => rfl) (takes_of rfl rfl rfl rfl) (sa_cons (se_ix (se_var (pv 0)) se_int) sa_nil)))))))) (ss_one (st_ret se_bl)) ss_nil)
  (ss_cons (st_if (st_not (st_val (se_ilL (g_all rfl) t.z_all (by decide +kernel) (sl_comp (own := [("part", 1)]) (b := (gN 1)) rfl sc_is_chance_row.nd (si_seq (se_cut (se_var (pv 0)) (so_some se_int) so_none)) (blkOk_by (own := [("part", 1)]) (N := N_is_chance_row) (sc := defScope (top 20)) (by decide +kernel)) (fun _ _ _ _ _ => (pg_name (i := 1) sc_is_chance_row.nd rfl (Or.inl rfl))) (gok_name (vs := [1]) (by simp)) (fun _ _ _ _ _ => sts_nil) (fun _ _ _ _ _ => (se_and (se_call (ok_is_fraction t) (hr.mono (by decide)) rfl t.g_is_fraction t.F_is_fraction.kp (t.F_is_fraction.binds fun _ _ _ _ _ _ us hl => match us, hl with | [_], _ => rfl) takes0 (sa_cons (se_var (pv 1)) sa_nil)) (se_one (se_not (se_call (ok_is_above t) (hr.mono (by decide)) rfl t.g_is_above t.F_is_above.kp (t.F_is_above.binds fun _ _ _ _ _ _ us hl => match us, hl with | [_, _], _ => rfl) takes0 (sa_cons (se_con t.con_NONE) (sa_cons (se_var (pv 1)) sa_nil))))))))))) (ss_one (st_ret se_bl)) ss_nil)
  (ss_one (st_ret (se_cmp (o_eq hr.units) (se_call (ok_added t) (hr.mono (by decide)) rfl t.g_added t.F_added.kp (t.F_added.binds fun _ _ _ _ _ _ us hl => match us, hl with | [_, _], _ => rfl) (takes_of rfl rfl rfl rfl) (sa_cons (se_call (ok_added t) (hr.mono (by decide)) rfl t.g_added t.F_added.kp (t.F_added.binds fun _ _ _ _ _ _ us hl => match us, hl with | [_, _], _ => rfl) (takes_of rfl rfl rfl rfl) (sa_cons (se_ix (se_var (pv 0)) se_int) (sa_cons (se_ix (se_var (pv 0)) se_int) sa_nil))) (sa_cons (se_ix (se_var (pv 0)) se_int) sa_nil))) (se_con t.con_ALL) (nomark _))))))
theorem ok_Chances___call__ (t : Txt P K mg) : FnOk P w K mg base (L2.CX P w) 4 (He.ma K (He.ga K "Chances") "__call__") (fdOf K (He.ma K (He.ga K "Chances") "__call__")) ["self", "one", "other"] (spEv ⟨K, (TT K).ca, (TT K).nm, (TT K).fld, (TT K).ex⟩ c_Chances___call__) :=
  fn_ok (T := TT K) fin_ok t.F_Chances___call__ sc_Chances___call__ fun cdv A outer s H E hr => (ss_cons (st_for (passes_of rfl) rfl (si_seq (se_tup (sa_cons (se_var (pv 1)) (sa_cons (se_var (pv 2)) sa_nil)))) (pg_name (i := 3) sc_Chances___call__.nd rfl (Or.inl rfl)) (gok_name (vs := [3]) (by simp)) (ss_one (st_if (st_not (st_val (se_call (ok_is_strength t) (hr.mono (by decide)) rfl t.g_is_strength t.F_is_strength.kp (t.F_is_strength.binds fun _ _ _ _ _ _ us hl => match us, hl with | [_], _ => rfl) (takes_of rfl rfl rfl rfl) (sa_cons (se_var (pv 3)) sa_nil)))) (ss_one (st_raise (c := 1) rfl t.er_BadNumber hr t.g_BadNumber (takes_of rfl rfl rfl rfl) (se_var (pv 3)))) ss_nil)))
  (ss_cons (st_set (i := 4) sc_Chances___call__.nd rfl (Or.inl rfl) (se_ix (se_lst (sl_comp (own := [("row", 4)]) (b := (gN 4)) rfl sc_Chances___call__.nd (si_seq (se_fld nmOk (by decide) rfl (fun c hc => by cases Nat.eq_of_beq_eq_true hc; exact ⟨t.own_Chances.cl, t.na_Chances_own_rows⟩) (se_var (pv 0)))) (blkOk_by (own := [("row", 4)]) (N := N_Chances___call__) (sc := defScope (inClass (top 21) 5)) (by decide +kernel)) (fun _ _ _ _ _ => (pg_name (i := 4) sc_Chances___call__.nd rfl (Or.inl rfl))) (gok_name (vs := [4]) (by simp)) (fun _ _ _ _ _ => (sts_one (st_cmp o_le (se_ix (se_var (pv 4)) se_int) (se_cb g_abs t.z_abs (by decide +kernel) (sa_cons (se_bin o_sub (se_var (pv 1)) (se_var (pv 2))) sa_nil)) (nomark _)))) (fun _ _ _ _ _ => (se_var (pv 4))))) (se_un o_neg se_int)))
  (ss_cons (st_if (st_cmp (o_eq hr.units) (se_var (pv 1)) (se_var (pv 2)) (nomark _)) (ss_cons (st_set (i := 5) sc_Chances___call__.nd rfl (Or.inl rfl) (se_call (ok_multiplied t) (hr.mono (by decide)) rfl t.g_multiplied t.F_multiplied.kp (t.F_multiplied.binds fun _ _ _ _ _ _ us hl => match us, hl with | [_, _], _ => rfl) (takes_of rfl rfl rfl rfl) (sa_cons (se_call (ok_less t) (hr.mono (by decide)) rfl t.g_less t.F_less.kp (t.F_less.binds fun _ _ _ _ _ _ us hl => match us, hl with | [_, _], _ => rfl) (takes_of rfl rfl rfl rfl) (sa_cons (se_con t.con_ALL) (sa_cons (se_ix (se_var (pv 4)) se_int) sa_nil))) (sa_cons (se_tup (sa_cons se_int (sa_cons se_int sa_nil))) sa_nil))))
  (ss_one (st_ret (se_tup (sa_cons (se_var (pv 5)) (sa_cons (se_ix (se_var (pv 4)) se_int) (sa_cons (se_var (pv 5)) sa_nil))))))) ss_nil)
  (ss_one (st_ret (se_if (st_cmp o_gt (se_var (pv 1)) (se_var (pv 2)) (nomark _)) (se_tup (sa_cons (se_ix (se_var (pv 4)) se_int) (sa_cons (se_ix (se_var (pv 4)) se_int) (sa_cons (se_ix (se_var (pv 4)) se_int) sa_nil)))) (se_tup (sa_cons (se_ix (se_var (pv 4)) se_int) (sa_cons (se_ix (se_var (pv 4)) se_int) (sa_cons (se_ix (se_var (pv 4)) se_int) sa_nil))))))))))
theorem ok__law_asked (t : Txt P K mg) : FnOk P w K mg base (L2.CX P w) 5 (He.ga K "_law_asked") (fdOf K (He.ga K "_law_asked")) ["_law_chances", "_law_one", "_law_other"] (spEv ⟨K, (TT K).ca, (TT K).nm, (TT K).fld, (TT K).ex⟩ c__law_asked) :=
  fn_ok (T := TT K) fin_ok t.F__law_asked sc__law_asked fun cdv A outer s H E hr => (ss_cons (st_try1 (i := 3) (cv := .ref ((TT K).ca 1)) (sub := sub_BadNumber) rfl rfl rfl sc__law_asked.nd rfl rfl ⟨rfl, by decide, Or.inl t.g_BadNumber⟩ (takes_of rfl rfl rfl rfl) (fun c b h => match c, h with | 0, h => nomatch h | 1, h => by cases h; exact t.exm_1_BadNumber | 2, h => by cases h; exact t.exm_2_BadNumber | (m + 3), h => nomatch h)
 (fun W pn xe tk po => (ss_one (st_ex (se_callO (c := 3) ⟨t.du_Chances___call__.at_, t.du_Chances___call__.fn, t.du_Chances___call__.fi⟩ (ok_Chances___call__ t) (hr.mono (by decide)) (t.F_Chances___call__.binds fun _ _ _ _ _ _ us hl => match us, hl with | [_, _, _], _ => rfl) tk (se_var (pv 0)) (sa_cons (se_var (pv 1)) (sa_cons (se_var (pv 2)) sa_nil))))))
 (fun a oe c dx pn hc hz hff => match c, hc, hz with | 0, hc, _ => absurd hc (by decide) | 1, _, hz => (ss_one (st_ret (se_cb g_reprB t.z_repr (by decide +kernel) (sa_cons (se_xf t.xf_1.1 t.no_1 rfl hz hff (se_var (pv 3))) sa_nil)))) | 2, hc, _ => absurd hc (by decide) | (m + 3), hc, _ => absurd hc (fun h => nomatch h)))
  (ss_one (st_ret se_non)))
theorem ok_Chances___init__ (t : Txt P K mg) : FnOk P w K mg base (L2.CX P w) 5 (He.ma K (He.ga K "Chances") "__init__") (fdOf K (He.ma K (He.ga K "Chances") "__init__")) ["self", "rows"] (spEv ⟨K, (TT K).ca, (TT K).nm, (TT K).fld, (TT K).ex⟩ c_Chances___init__) :=
  fn_ok (T := TT K) fin_ok t.F_Chances___init__ sc_Chances___init__ fun cdv A outer s H E hr => (ss_cons (st_if (st_bool (sw_or (st_not (st_val (se_isi2 (b := .list) (c := .tuple) rfl t.z_isinstance (se_var (pv 1)) (ty_of t.z_list (by decide +kernel)) (ty_of t.z_tuple (by decide +kernel))))) (sw_oneO (st_not (st_chain2 o_le o_le se_int (se_it g_len t.z_len (by decide +kernel) (se_var (pv 1))) (se_con t.con_MOST_ROWS)))))) (ss_one (st_raise (c := 2) rfl t.er_BadChances hr t.g_BadChances (takes_of rfl rfl rfl rfl) se_non)) ss_nil)
  (ss_cons (st_for (passes_of rfl) rfl (si_enumS rfl t.z_enumerate (se_var (pv 1))) (pg_tup (n := 2) (t := gsNames [2, 3]) rfl (pgs_cons (pg_name (i := 2) sc_Chances___init__.nd rfl (Or.inl rfl)) (pgs_cons (pg_name (i := 3) sc_Chances___init__.nd rfl (Or.inl rfl)) pgs_nil))) (gok_tup (is := [2, 3]) (vs := [2, 3]) (by simp)) (ss_cons (st_if (st_bool (sw_or (st_not (st_val (se_call (ok_is_chance_row t) (hr.mono (by decide)) rfl t.g_is_chance_row t.F_is_chance_row.kp (t.F_is_chance_row.binds fun _ _ _ _ _ _ us hl => match us, hl with | [_], _ => rfl) (takes_of rfl rfl rfl rfl) (sa_cons (se_var (pv 3)) sa_nil)))) (sw_oneO (st_bool (sw_and (st_cmp (o_eq hr.units) (se_var (pv 2)) se_int (nomark _)) (sw_one (st_cmp (o_ne hr.units) (se_ix (se_var (pv 3)) se_int) se_int (nomark _)))))))) (ss_one (st_raise (c := 2) rfl t.er_BadChances hr t.g_BadChances (takes_of rfl rfl rfl rfl) (se_var (pv 2)))) ss_nil)
  (ss_one (st_if (st_bool (sw_and (st_cmp o_gt (se_var (pv 2)) se_int (nomark _)) (sw_one (st_cmp o_le (se_ix (se_var (pv 3)) se_int) (se_ix (se_ix (se_var (pv 1)) (se_bin o_sub (se_var (pv 2)) se_int)) se_int) (nomark _))))) (ss_one (st_raise (c := 2) rfl t.er_BadChances hr t.g_BadChances (takes_of rfl rfl rfl rfl) (se_var (pv 2)))) ss_nil))))
  (ss_one (st_fld nmOk (by decide) rfl (fun c hc => by cases Nat.eq_of_beq_eq_true hc; exact ⟨t.own_Chances.cl, t.na_Chances_own_rows⟩) (se_var (pv 0)) (se_tit g_tuple t.z_tuple (by decide +kernel) (se_var (pv 1)))))))
theorem ok__law_told (t : Txt P K mg) : FnOk P w K mg base (L2.CX P w) 7 (He.ga K "_law_told") (fdOf K (He.ga K "_law_told")) ["_law_rows"] (spEv ⟨K, (TT K).ca, (TT K).nm, (TT K).fld, (TT K).ex⟩ c__law_told) :=
  fn_ok (T := TT K) fin_ok t.F__law_told sc__law_told fun cdv A outer s H E hr => (ss_cons (st_try1 (i := 1) (cv := .ref ((TT K).ca 2)) (sub := sub_BadChances) rfl rfl rfl sc__law_told.nd rfl rfl ⟨rfl, by decide, Or.inl t.g_BadChances⟩ (takes_of rfl rfl rfl rfl) (fun c b h => match c, h with | 0, h => nomatch h | 1, h => by cases h; exact t.exm_1_BadChances | 2, h => by cases h; exact t.exm_2_BadChances | (m + 3), h => nomatch h)
 (fun W pn xe tk po => (ss_one (st_ex (se_make (c := 3) fin_ok t.g_Chances t.mk_Chances (ok_Chances___init__ t) (hr.mono (by decide)) (t.F_Chances___init__.binds fun _ _ _ _ _ _ us hl => match us, hl with | [_, _], _ => rfl) tk (sa_cons (se_var (pv 0)) sa_nil)))))
 (fun a oe c dx pn hc hz hff => match c, hc, hz with | 0, hc, _ => absurd hc (by decide) | 1, hc, _ => absurd hc (by decide) | 2, _, hz => (ss_one (st_ret (se_lst (sl_lst (sa_cons (se_xf t.xf_2.1 t.no_2 rfl hz hff (se_var (pv 1))) (sa_cons (se_isX (cv := .ref ((TT K).ca 0)) t.xf_2.2 hz hff t.z_isinstance (se_var (pv 1)) (pe_glob (v := .ref ((TT K).ca 0)) rfl t.g_LadderError rfl) (fun _ h => h) (fun b h => by cases h; exact t.kit_2_LadderError)) (sa_cons (se_isX (cv := .type "ValueError") t.xf_2.2 hz hff t.z_isinstance (se_var (pv 1)) (ty_of t.z_ValueError (by decide +kernel)) (fun _ h => h) (fun b h => by cases h; exact t.kit_2_ValueError)) sa_nil))))))) | (m + 3), hc, _ => absurd hc (fun h => nomatch h)))
  (ss_one (st_ret (se_lst (sl_lst sa_nil)))))
theorem ok_law (t : Txt P K mg) : FnOk P w K mg base (L2.CX P w) 8 (He.ga K "law") (fdOf K (He.ga K "law")) ["_law_script"] (spEv ⟨K, (TT K).ca, (TT K).nm, (TT K).fld, (TT K).ex⟩ c_law) :=
  fn_ok (T := TT K) fin_ok t.F_law sc_law fun cdv A outer s H E hr => (ss_cons (st_forK [1, 2, 3, 4, 5, 6, 7, 8, 9, 10] (passes_of rfl) rfl (si_range1 rfl t.z_range (sa_cons (se_cb (g_max2 rfl) t.z_max (by decide +kernel) (sa_cons se_int (sa_cons (se_cb (g_min2 rfl) t.z_min (by decide +kernel) (sa_cons (se_it g_len t.z_len (by decide +kernel) (se_var (pv 0))) (sa_cons se_int sa_nil))) sa_nil))) sa_nil)) (pg_name (i := 1) sc_law.nd rfl (Or.inl rfl)) (gok_name (vs := [1]) (by simp)) (ss_cons (st_set (i := 2) sc_law.nd rfl (Or.inr rfl) (se_call (ok__law_pool t) (hr.mono (by decide)) rfl t.g__law_pool t.F__law_pool.kp (t.F__law_pool.binds fun _ _ _ _ _ _ us hl => match us, hl with | [_, _], _ => rfl) (takes_of rfl rfl rfl rfl) (sa_cons (se_var (pv 0)) (sa_cons (se_var (pv 1)) sa_nil))))
  (ss_cons (st_setLcF (i := 3) (own := [("_law_border", 7)]) (b := (gN 7)) rfl sc_law.nd rfl rfl rfl (si_tmp (sl_lst (sa_cons se_int (sa_cons se_int (sa_cons se_int (sa_cons se_int (sa_cons se_int (sa_cons se_int sa_nil)))))))) (blkOk_by (own := [("_law_border", 7)]) (N := N_law) (sc := defScope (top 30)) (by decide +kernel)) (fun _ _ _ _ _ => (pg_name (i := 7) sc_law.nd rfl (Or.inl rfl))) (gok_name (vs := [7]) (by simp)) (fun _ _ _ _ _ => sts_nil) (fun _ _ _ _ _ => (se_call (ok__law_row t) (hr.mono (by decide)) rfl t.g__law_row t.F__law_row.kp (t.F__law_row.binds fun _ _ _ _ _ _ us hl => match us, hl with | [_, _], _ => rfl) takes0 (sa_cons (se_var (pv 2)) (sa_cons (se_var (pv 7)) sa_nil)))))
  (ss_cons (st_if (st_bool (sw_or (st_cmp (o_ne hr.units) (se_call (ok__law_told t) (hr.mono (by decide)) rfl t.g__law_told t.F__law_told.kp (t.F__law_told.binds fun _ _ _ _ _ _ us hl => match us, hl with | [_], _ => rfl) (takes_of rfl rfl rfl rfl) (sa_cons (se_var (pv 3)) sa_nil)) (se_lst (sl_lst sa_nil)) (nomark _)) (sw_oneO (st_cmp (o_ne hr.units) (se_call (ok__law_told t) (hr.mono (by decide)) rfl t.g__law_told t.F__law_told.kp (t.F__law_told.binds fun _ _ _ _ _ _ us hl => match us, hl with | [_], _ => rfl) (takes_of rfl rfl rfl rfl) (sa_cons (se_titL g_tuple t.z_tuple (by decide +kernel) (sl_cut (se_var (pv 3)) so_none (so_some se_int))) sa_nil)) (se_lst (sl_lst sa_nil)) (nomark _))))) (ss_one (st_ret se_bl)) ss_nil)
  (ss_cons (st_forK [4] (passes_of rfl) rfl (si_tmp (sl_lst (sa_cons se_non (sa_cons se_int (sa_cons (se_lst (sl_lst sa_nil)) (sa_cons (se_tup sa_nil) (sa_cons se_str (sa_cons se_d0 (sa_cons (se_bin o_add (se_var (pv 3)) (se_lst (sl_lst (sa_cons (se_call (ok__law_row t) (hr.mono (by decide)) rfl t.g__law_row t.F__law_row.kp (t.F__law_row.binds fun _ _ _ _ _ _ us hl => match us, hl with | [_, _], _ => rfl) (takes_of rfl rfl rfl rfl) (sa_cons (se_var (pv 2)) (sa_cons se_int sa_nil))) sa_nil)))) sa_nil))))))))) (pg_name (i := 4) sc_law.nd rfl (Or.inl rfl)) (gok_name (vs := [4]) (by simp)) (ss_one (st_if (st_cmp (o_ne hr.units) (se_call (ok__law_told t) (hr.mono (by decide)) rfl t.g__law_told t.F__law_told.kp (t.F__law_told.binds fun _ _ _ _ _ _ us hl => match us, hl with | [_], _ => rfl) (takes_of rfl rfl rfl rfl) (sa_cons (se_var (pv 4)) sa_nil)) (se_lst (sl_lst (sa_cons se_non (sa_cons se_bl (sa_cons se_bl sa_nil))))) (nomark _)) (ss_one (st_ret se_bl)) ss_nil)))
  (ss_cons (st_par2 (i := 5) (j := 6) rfl sc_law.nd rfl rfl (by decide) rfl rfl (sa_cons (se_call (ok__law_draw t) (hr.mono (by decide)) rfl t.g__law_draw t.F__law_draw.kp (t.F__law_draw.binds fun _ _ _ _ _ _ us hl => match us, hl with | [_, _], _ => rfl) (takes_of rfl rfl rfl rfl) (sa_cons (se_var (pv 2)) (sa_cons se_int sa_nil))) (sa_cons (se_tup (sa_cons se_int (sa_cons se_int sa_nil))) sa_nil)) (by rfl))
  (ss_cons (st_set (i := 7) sc_law.nd rfl (Or.inl rfl) (se_ix (se_ix (se_var (pv 3)) (se_var (pv 5))) se_int))
  (ss_cons (st_set (i := 8) sc_law.nd rfl (Or.inl rfl) (se_lst (sl_lst (sa_cons se_non (sa_cons (se_tup (sa_cons (se_var (pv 7)) (sa_cons (se_var (pv 6)) (sa_cons (se_var (pv 6)) sa_nil)))) (sa_cons (se_lst (sl_lst (sa_cons (se_var (pv 7)) (sa_cons (se_var (pv 6)) (sa_cons (se_var (pv 6)) (sa_cons (se_tup (sa_cons se_int (sa_cons se_int sa_nil))) sa_nil)))))) (sa_cons (se_tup (sa_cons (se_var (pv 7)) (sa_cons (se_var (pv 6)) (sa_cons (se_var (pv 6)) (sa_cons (se_var (pv 6)) sa_nil))))) (sa_cons (se_tup (sa_cons (se_var (pv 7)) (sa_cons (se_tup (sa_cons se_int (sa_cons se_int sa_nil))) (sa_cons (se_tup (sa_cons se_int (sa_cons se_int sa_nil))) (sa_cons (se_tup (sa_cons (se_un o_neg se_int) (sa_cons se_int sa_nil))) sa_nil))))) sa_nil))))))))
  (ss_cons (st_set (i := 8) sc_law.nd rfl (Or.inl rfl) (se_bin o_add (se_var (pv 8)) (se_lst (sl_lst (sa_cons (se_tup (sa_cons (se_var (pv 7)) (sa_cons (se_tup (sa_cons se_int (sa_cons se_int sa_nil))) (sa_cons (se_var (pv 6)) (sa_cons (se_tup (sa_cons se_int (sa_cons se_int sa_nil))) sa_nil))))) (sa_cons (se_tup (sa_cons (se_var (pv 7)) (sa_cons se_int (sa_cons se_int (sa_cons se_int sa_nil))))) (sa_cons (se_tup (sa_cons (se_var (pv 7)) (sa_cons (se_var (pv 6)) (sa_cons (se_tup (sa_cons se_int (sa_cons se_int sa_nil))) (sa_cons (se_tup (sa_cons se_int (sa_cons (se_un o_neg se_int) sa_nil))) sa_nil))))) (sa_cons (se_tup (sa_cons se_non (sa_cons (se_var (pv 6)) (sa_cons (se_var (pv 6)) (sa_cons (se_tup (sa_cons se_int (sa_cons se_int sa_nil))) sa_nil))))) sa_nil))))))))
  (ss_cons (st_set (i := 8) sc_law.nd rfl (Or.inl rfl) (se_bin o_add (se_var (pv 8)) (se_lst (sl_lst (sa_cons (se_tup (sa_cons se_bl (sa_cons (se_var (pv 6)) (sa_cons (se_var (pv 6)) (sa_cons (se_tup (sa_cons se_int (sa_cons se_int sa_nil))) sa_nil))))) (sa_cons (se_tup (sa_cons se_int (sa_cons (se_var (pv 6)) (sa_cons (se_var (pv 6)) (sa_cons (se_tup (sa_cons se_int (sa_cons se_int sa_nil))) sa_nil))))) (sa_cons (se_tup (sa_cons (se_var (pv 7)) (sa_cons (se_lst (sl_lst (sa_cons se_int (sa_cons se_int sa_nil)))) (sa_cons (se_var (pv 6)) (sa_cons (se_tup (sa_cons se_int (sa_cons se_int sa_nil))) sa_nil))))) sa_nil)))))))
  (ss_cons (st_forK [4] (passes_of rfl) rfl (si_seq (se_var (pv 8))) (pg_name (i := 4) sc_law.nd rfl (Or.inl rfl)) (gok_name (vs := [4]) (by simp)) (ss_one (st_if (st_cmp (o_ne hr.units) (se_call (ok__law_told t) (hr.mono (by decide)) rfl t.g__law_told t.F__law_told.kp (t.F__law_told.binds fun _ _ _ _ _ _ us hl => match us, hl with | [_], _ => rfl) (takes_of rfl rfl rfl rfl) (sa_cons (se_bin o_add (se_lst (sl_cut (se_var (pv 3)) so_none (so_some (se_var (pv 5))))) (se_lst (sl_lst (sa_cons (se_var (pv 4)) (sa_cons se_non sa_nil))))) sa_nil)) (se_lst (sl_lst (sa_cons (se_var (pv 5)) (sa_cons se_bl (sa_cons se_bl sa_nil))))) (nomark _)) (ss_one (st_ret se_bl)) ss_nil)))
  (ss_cons (st_if (st_cmp (o_ne hr.units) (se_call (ok__law_told t) (hr.mono (by decide)) rfl t.g__law_told t.F__law_told.kp (t.F__law_told.binds fun _ _ _ _ _ _ us hl => match us, hl with | [_], _ => rfl) (takes_of rfl rfl rfl rfl) (sa_cons (se_lst (sl_lst (sa_cons (se_tup (sa_cons se_int (sa_cons (se_var (pv 6)) (sa_cons (se_var (pv 6)) (sa_cons (se_tup (sa_cons se_int (sa_cons se_int sa_nil))) sa_nil))))) sa_nil))) sa_nil)) (se_lst (sl_lst (sa_cons se_int (sa_cons se_bl (sa_cons se_bl sa_nil))))) (nomark _)) (ss_one (st_ret se_bl)) ss_nil)
  (ss_cons (st_forK [9] (passes_of rfl) rfl (si_tmp (sl_cut (se_var (pv 3)) so_none (so_some (se_bin o_add (se_var (pv 5)) se_int)))) (pg_name (i := 9) sc_law.nd rfl (Or.inl rfl)) (gok_name (vs := [9]) (by simp)) (ss_one (st_if (st_cmp (o_ne hr.units) (se_call (ok__law_told t) (hr.mono (by decide)) rfl t.g__law_told t.F__law_told.kp (t.F__law_told.binds fun _ _ _ _ _ _ us hl => match us, hl with | [_], _ => rfl) (takes_of rfl rfl rfl rfl) (sa_cons (se_bin o_add (se_lst (sl_cut (se_var (pv 3)) so_none (so_some (se_bin o_add (se_var (pv 5)) se_int)))) (se_lst (sl_lst (sa_cons (se_var (pv 9)) sa_nil)))) sa_nil)) (se_lst (sl_lst (sa_cons (se_bin o_add (se_var (pv 5)) se_int) (sa_cons se_bl (sa_cons se_bl sa_nil))))) (nomark _)) (ss_one (st_ret se_bl)) ss_nil)))
  (ss_cons (st_set (i := 10) sc_law.nd rfl (Or.inl rfl) (se_make (c := 3) fin_ok t.g_Chances t.mk_Chances (ok_Chances___init__ t) (hr.mono (by decide)) (t.F_Chances___init__.binds fun _ _ _ _ _ _ us hl => match us, hl with | [_, _], _ => rfl) (takes_of rfl rfl rfl rfl) (sa_cons (se_var (pv 3)) sa_nil)))
  (ss_one (st_forK [4] (passes_of rfl) rfl (si_tmp (sl_lst (sa_cons se_non (sa_cons (se_un o_neg se_int) (sa_cons se_int (sa_cons se_bl (sa_cons se_str sa_nil))))))) (pg_name (i := 4) sc_law.nd rfl (Or.inl rfl)) (gok_name (vs := [4]) (by simp)) (ss_one (st_if (st_bool (sw_or (st_cmp (o_ne hr.units) (se_call (ok__law_asked t) (hr.mono (by decide)) rfl t.g__law_asked t.F__law_asked.kp (t.F__law_asked.binds fun _ _ _ _ _ _ us hl => match us, hl with | [_, _, _], _ => rfl) (takes_of rfl rfl rfl rfl) (sa_cons (se_var (pv 10)) (sa_cons (se_var (pv 4)) (sa_cons se_non sa_nil)))) (se_cb g_reprB t.z_repr (by decide +kernel) (sa_cons (se_var (pv 4)) sa_nil)) (nomark _)) (sw_oneO (st_cmp (o_ne hr.units) (se_call (ok__law_asked t) (hr.mono (by decide)) rfl t.g__law_asked t.F__law_asked.kp (t.F__law_asked.binds fun _ _ _ _ _ _ us hl => match us, hl with | [_, _, _], _ => rfl) (takes_of rfl rfl rfl rfl) (sa_cons (se_var (pv 10)) (sa_cons se_int (sa_cons (se_var (pv 4)) sa_nil)))) (se_cb g_reprB t.z_repr (by decide +kernel) (sa_cons (se_var (pv 4)) sa_nil)) (nomark _))))) (ss_one (st_ret se_bl)) ss_nil))))))))))))))))))
  (ss_one (st_ret se_bl)))
end
end K62
end
/-! ## K62H -/
section
set_option maxRecDepth 100000
set_option maxHeartbeats 0
namespace K62
open PySem L2 Lad
abbrev P0 : Program := PySem.Challenge.pw_liftedladders_k62_chances_refused
abbrev d_is_whole : He.DefD := ⟨("is_whole", none), "is_whole", "is_whole", defArgs (top 6), defBody (top 6), defScope (top 6), [], []⟩
abbrev d_common_divisor : He.DefD := ⟨("common_divisor", none), "common_divisor", "common_divisor", defArgs (top 7), defBody (top 7), defScope (top 7), [], []⟩
abbrev d_is_above : He.DefD := ⟨("is_above", none), "is_above", "is_above", defArgs (top 13), defBody (top 13), defScope (top 13), [], []⟩
abbrev d__law_pool : He.DefD := ⟨("_law_pool", none), "_law_pool", "_law_pool", defArgs (top 23), defBody (top 23), defScope (top 23), [], []⟩
abbrev d__law_draw : He.DefD := ⟨("_law_draw", none), "_law_draw", "_law_draw", defArgs (top 24), defBody (top 24), defScope (top 24), [], []⟩
abbrev d__law_small : He.DefD := ⟨("_law_small", none), "_law_small", "_law_small", defArgs (top 26), defBody (top 26), defScope (top 26), [], []⟩
abbrev d_is_integer : He.DefD := ⟨("is_integer", none), "is_integer", "is_integer", defArgs (top 5), defBody (top 5), defScope (top 5), [], []⟩
abbrev d_is_fraction : He.DefD := ⟨("is_fraction", none), "is_fraction", "is_fraction", defArgs (top 8), defBody (top 8), defScope (top 8), [], []⟩
abbrev d_fraction : He.DefD := ⟨("fraction", none), "fraction", "fraction", defArgs (top 9), defBody (top 9), defScope (top 9), [], []⟩
abbrev d__law_row : He.DefD := ⟨("_law_row", none), "_law_row", "_law_row", defArgs (top 27), defBody (top 27), defScope (top 27), [], []⟩
abbrev d_added : He.DefD := ⟨("added", none), "added", "added", defArgs (top 10), defBody (top 10), defScope (top 10), [], []⟩
abbrev d_less : He.DefD := ⟨("less", none), "less", "less", defArgs (top 11), defBody (top 11), defScope (top 11), [], []⟩
abbrev d_multiplied : He.DefD := ⟨("multiplied", none), "multiplied", "multiplied", defArgs (top 12), defBody (top 12), defScope (top 12), [], []⟩
abbrev d_is_strength : He.DefD := ⟨("is_strength", none), "is_strength", "is_strength", defArgs (top 19), defBody (top 19), defScope (top 19), [], []⟩
abbrev d_is_chance_row : He.DefD := ⟨("is_chance_row", none), "is_chance_row", "is_chance_row", defArgs (top 20), defBody (top 20), defScope (top 20), [], []⟩
abbrev d_Chances___call__ : He.DefD := ⟨("Chances", some "__call__"), "__call__", "Chances.__call__", defArgs (inClass (top 21) 5), defBody (inClass (top 21) 5), defScope (inClass (top 21) 5), [], []⟩
abbrev d__law_asked : He.DefD := ⟨("_law_asked", none), "_law_asked", "_law_asked", defArgs (top 29), defBody (top 29), defScope (top 29), [], []⟩
abbrev d_Chances___init__ : He.DefD := ⟨("Chances", some "__init__"), "__init__", "Chances.__init__", defArgs (inClass (top 21) 0), defBody (inClass (top 21) 0), defScope (inClass (top 21) 0), [], []⟩
abbrev d__law_told : He.DefD := ⟨("_law_told", none), "_law_told", "_law_told", defArgs (top 28), defBody (top 28), defScope (top 28), [], []⟩
abbrev d_law : He.DefD := ⟨("law", none), "law", "law", defArgs (top 30), defBody (top 30), defScope (top 30), [], []⟩
def fn : List He.DefD := [d_is_whole, d_common_divisor, d_is_above, d__law_pool, d__law_draw, d__law_small, d_is_integer, d_is_fraction, d_fraction, d__law_row, d_added, d_less, d_multiplied, d_is_strength, d_is_chance_row, d_Chances___call__, d__law_asked, d_Chances___init__, d__law_told, d_law]
def er : List ErD := [e_BadNumber, e_BadChances]
def fa : List Chk := [(He.Fa.free "ValueError").ok,
  (He.Fa.free "abs").ok,
  (He.Fa.free "all").ok,
  (He.Fa.free "bool").ok,
  (He.Fa.free "enumerate").ok,
  (He.Fa.free "int").ok,
  (He.Fa.free "isinstance").ok,
  (He.Fa.free "len").ok,
  (He.Fa.free "list").ok,
  (He.Fa.free "max").ok,
  (He.Fa.free "min").ok,
  (He.Fa.free "range").ok,
  (He.Fa.free "repr").ok,
  (He.Fa.free "tuple").ok,
  (He.Fa.glo "is_whole").ok,
  (He.Fa.glo "common_divisor").ok,
  (He.Fa.glo "is_above").ok,
  (He.Fa.glo "_law_pool").ok,
  (He.Fa.glo "_law_draw").ok,
  (He.Fa.glo "_law_small").ok,
  (He.Fa.glo "is_integer").ok,
  (He.Fa.glo "is_fraction").ok,
  (He.Fa.glo "fraction").ok,
  (He.Fa.glo "_law_row").ok,
  (He.Fa.glo "added").ok,
  (He.Fa.glo "less").ok,
  (He.Fa.glo "multiplied").ok,
  (He.Fa.glo "is_strength").ok,
  (He.Fa.glo "is_chance_row").ok,
  (He.Fa.glo "_law_asked").ok,
  (He.Fa.glo "_law_told").ok,
  (He.Fa.glo "law").ok,
  noList,
  (conB "ALL" k_ALL),
  (conB "MOST_ROWS" k_MOST_ROWS),
  (conB "MOST_STRENGTH" k_MOST_STRENGTH),
  (conB "NONE" k_NONE),
  (He.Fa.glo "LadderError").ok,
  (He.Fa.glo "BadNumber").ok,
  (He.Fa.glo "BadChances").ok,
  (He.Fa.glo "Chances").ok,
  (fun K => erB P0.main.file "ValueError" "ValueError.__new__" "ValueError.__init__" He.veBase K e_BadNumber),
  (fun K => excB K (caK K 1)),
  (fun K => eqO (PySem.W.findIn K (.ref (caK K 1)) "number") (some none)),
  (fun K => erB P0.main.file "ValueError" "ValueError.__new__" "ValueError.__init__" He.veBase K e_BadChances),
  (fun K => excB K (caK K 2)),
  (fun K => eqO (PySem.W.findIn K (.ref (caK K 2)) "index") (some none)),
  (fun K => decide (PySem.W.exmOne K (.ref (caK K 1)) (.ref (caK K 2)) = some false)),
  (fun K => decide (PySem.W.exmOne K (.ref (caK K 1)) (.ref (caK K 1)) = some true)),
  (fun K => decide (PySem.W.exmOne K (.ref (caK K 2)) (.ref (caK K 2)) = some true)),
  (fun K => decide (PySem.W.exmOne K (.ref (caK K 2)) (.ref (caK K 1)) = some false)),
  (fun K => decide (PySem.W.kitOne K (.ref (caK K 2)) (.ref (caK K 0)) = some true)),
  (fun K => decide (PySem.W.kitOne K (.ref (caK K 2)) (.type "ValueError") = some true)),
  (fun K => ownB K (caK K 3)),
  (fun K => eqO (PySem.W.findIn K (.ref (caK K 3)) "own_rows") (some none)),
  (fun K => (He.Fa.mkr "Chances").ok K),
  (fun K => dunB "__call__" K (caK K 3))]
theorem txt {K : PySem.W.Frag} {h : Heap} {mg : Str → Option Value} (X : K.In h) (G : h.Ns mainGlobals mg) (c : SaysL fa fn er K) : Txt P0 K mg where
  z_ValueError := He.free_ok X G (c.fact 0 (f := (He.Fa.free "ValueError").ok) rfl)
  z_abs := He.free_ok X G (c.fact 1 (f := (He.Fa.free "abs").ok) rfl)
  z_all := He.free_ok X G (c.fact 2 (f := (He.Fa.free "all").ok) rfl)
  z_bool := He.free_ok X G (c.fact 3 (f := (He.Fa.free "bool").ok) rfl)
  z_enumerate := He.free_ok X G (c.fact 4 (f := (He.Fa.free "enumerate").ok) rfl)
  z_int := He.free_ok X G (c.fact 5 (f := (He.Fa.free "int").ok) rfl)
  z_isinstance := He.free_ok X G (c.fact 6 (f := (He.Fa.free "isinstance").ok) rfl)
  z_len := He.free_ok X G (c.fact 7 (f := (He.Fa.free "len").ok) rfl)
  z_list := He.free_ok X G (c.fact 8 (f := (He.Fa.free "list").ok) rfl)
  z_max := He.free_ok X G (c.fact 9 (f := (He.Fa.free "max").ok) rfl)
  z_min := He.free_ok X G (c.fact 10 (f := (He.Fa.free "min").ok) rfl)
  z_range := He.free_ok X G (c.fact 11 (f := (He.Fa.free "range").ok) rfl)
  z_repr := He.free_ok X G (c.fact 12 (f := (He.Fa.free "repr").ok) rfl)
  z_tuple := He.free_ok X G (c.fact 13 (f := (He.Fa.free "tuple").ok) rfl)
  F_is_whole := fun_of (d := d_is_whole) rfl (c.fn_ 0 rfl).1 (c.fn_ 0 rfl).2
  g_is_whole := He.glo_ok X G (c.fact 14 (f := (He.Fa.glo "is_whole").ok) rfl)
  F_common_divisor := fun_of (d := d_common_divisor) rfl (c.fn_ 1 rfl).1 (c.fn_ 1 rfl).2
  g_common_divisor := He.glo_ok X G (c.fact 15 (f := (He.Fa.glo "common_divisor").ok) rfl)
  F_is_above := fun_of (d := d_is_above) rfl (c.fn_ 2 rfl).1 (c.fn_ 2 rfl).2
  g_is_above := He.glo_ok X G (c.fact 16 (f := (He.Fa.glo "is_above").ok) rfl)
  F__law_pool := fun_of (d := d__law_pool) rfl (c.fn_ 3 rfl).1 (c.fn_ 3 rfl).2
  g__law_pool := He.glo_ok X G (c.fact 17 (f := (He.Fa.glo "_law_pool").ok) rfl)
  F__law_draw := fun_of (d := d__law_draw) rfl (c.fn_ 4 rfl).1 (c.fn_ 4 rfl).2
  g__law_draw := He.glo_ok X G (c.fact 18 (f := (He.Fa.glo "_law_draw").ok) rfl)
  F__law_small := fun_of (d := d__law_small) rfl (c.fn_ 5 rfl).1 (c.fn_ 5 rfl).2
  g__law_small := He.glo_ok X G (c.fact 19 (f := (He.Fa.glo "_law_small").ok) rfl)
  F_is_integer := fun_of (d := d_is_integer) rfl (c.fn_ 6 rfl).1 (c.fn_ 6 rfl).2
  g_is_integer := He.glo_ok X G (c.fact 20 (f := (He.Fa.glo "is_integer").ok) rfl)
  F_is_fraction := fun_of (d := d_is_fraction) rfl (c.fn_ 7 rfl).1 (c.fn_ 7 rfl).2
  g_is_fraction := He.glo_ok X G (c.fact 21 (f := (He.Fa.glo "is_fraction").ok) rfl)
  F_fraction := fun_of (d := d_fraction) rfl (c.fn_ 8 rfl).1 (c.fn_ 8 rfl).2
  g_fraction := He.glo_ok X G (c.fact 22 (f := (He.Fa.glo "fraction").ok) rfl)
  F__law_row := fun_of (d := d__law_row) rfl (c.fn_ 9 rfl).1 (c.fn_ 9 rfl).2
  g__law_row := He.glo_ok X G (c.fact 23 (f := (He.Fa.glo "_law_row").ok) rfl)
  F_added := fun_of (d := d_added) rfl (c.fn_ 10 rfl).1 (c.fn_ 10 rfl).2
  g_added := He.glo_ok X G (c.fact 24 (f := (He.Fa.glo "added").ok) rfl)
  F_less := fun_of (d := d_less) rfl (c.fn_ 11 rfl).1 (c.fn_ 11 rfl).2
  g_less := He.glo_ok X G (c.fact 25 (f := (He.Fa.glo "less").ok) rfl)
  F_multiplied := fun_of (d := d_multiplied) rfl (c.fn_ 12 rfl).1 (c.fn_ 12 rfl).2
  g_multiplied := He.glo_ok X G (c.fact 26 (f := (He.Fa.glo "multiplied").ok) rfl)
  F_is_strength := fun_of (d := d_is_strength) rfl (c.fn_ 13 rfl).1 (c.fn_ 13 rfl).2
  g_is_strength := He.glo_ok X G (c.fact 27 (f := (He.Fa.glo "is_strength").ok) rfl)
  F_is_chance_row := fun_of (d := d_is_chance_row) rfl (c.fn_ 14 rfl).1 (c.fn_ 14 rfl).2
  g_is_chance_row := He.glo_ok X G (c.fact 28 (f := (He.Fa.glo "is_chance_row").ok) rfl)
  F_Chances___call__ := fun_of (d := d_Chances___call__) rfl (c.fn_ 15 rfl).1 (c.fn_ 15 rfl).2
  F__law_asked := fun_of (d := d__law_asked) rfl (c.fn_ 16 rfl).1 (c.fn_ 16 rfl).2
  g__law_asked := He.glo_ok X G (c.fact 29 (f := (He.Fa.glo "_law_asked").ok) rfl)
  F_Chances___init__ := fun_of (d := d_Chances___init__) rfl (c.fn_ 17 rfl).1 (c.fn_ 17 rfl).2
  F__law_told := fun_of (d := d__law_told) rfl (c.fn_ 18 rfl).1 (c.fn_ 18 rfl).2
  g__law_told := He.glo_ok X G (c.fact 30 (f := (He.Fa.glo "_law_told").ok) rfl)
  F_law := fun_of (d := d_law) rfl (c.fn_ 19 rfl).1 (c.fn_ 19 rfl).2
  g_law := He.glo_ok X G (c.fact 31 (f := (He.Fa.glo "law").ok) rfl)
  nl := c.fact 32 (f := noList) rfl
  con_ALL := conB_ok X G (c.fact 33 (f := (conB "ALL" k_ALL)) rfl)
  con_MOST_ROWS := conB_ok X G (c.fact 34 (f := (conB "MOST_ROWS" k_MOST_ROWS)) rfl)
  con_MOST_STRENGTH := conB_ok X G (c.fact 35 (f := (conB "MOST_STRENGTH" k_MOST_STRENGTH)) rfl)
  con_NONE := conB_ok X G (c.fact 36 (f := (conB "NONE" k_NONE)) rfl)
  g_LadderError := He.glo_ok X G (c.fact 37 (f := (He.Fa.glo "LadderError").ok) rfl)
  g_BadNumber := He.glo_ok X G (c.fact 38 (f := (He.Fa.glo "BadNumber").ok) rfl)
  g_BadChances := He.glo_ok X G (c.fact 39 (f := (He.Fa.glo "BadChances").ok) rfl)
  g_Chances := He.glo_ok X G (c.fact 40 (f := (He.Fa.glo "Chances").ok) rfl)
  er_BadNumber := ErD.txt PySem.W.kxs_ValueError PySem.F.excBase_ValueError PySem.F.store_ValueError ini_BadNumber (fun _ _ _ _ _ _ _ _ _ => rfl) (by decide +kernel) (c.er_ 0 rfl) (c.fact 41 (f := (fun K => erB P0.main.file "ValueError" "ValueError.__new__" "ValueError.__init__" He.veBase K e_BadNumber)) rfl)
  xf_1 := excB_ok (c.fact 42 (f := (fun K => excB K (caK K 1))) rfl)
  no_1 := eqO_ok (c.fact 43 (f := (fun K => eqO (PySem.W.findIn K (.ref (caK K 1)) "number") (some none))) rfl)
  er_BadChances := ErD.txt PySem.W.kxs_ValueError PySem.F.excBase_ValueError PySem.F.store_ValueError ini_BadChances (fun _ _ _ _ _ _ _ _ _ => rfl) (by decide +kernel) (c.er_ 1 rfl) (c.fact 44 (f := (fun K => erB P0.main.file "ValueError" "ValueError.__new__" "ValueError.__init__" He.veBase K e_BadChances)) rfl)
  xf_2 := excB_ok (c.fact 45 (f := (fun K => excB K (caK K 2))) rfl)
  no_2 := eqO_ok (c.fact 46 (f := (fun K => eqO (PySem.W.findIn K (.ref (caK K 2)) "index") (some none))) rfl)
  exm_1_BadChances := of_decide_eq_true (c.fact 47 (f := (fun K => decide (PySem.W.exmOne K (.ref (caK K 1)) (.ref (caK K 2)) = some false))) rfl)
  exm_1_BadNumber := of_decide_eq_true (c.fact 48 (f := (fun K => decide (PySem.W.exmOne K (.ref (caK K 1)) (.ref (caK K 1)) = some true))) rfl)
  exm_2_BadChances := of_decide_eq_true (c.fact 49 (f := (fun K => decide (PySem.W.exmOne K (.ref (caK K 2)) (.ref (caK K 2)) = some true))) rfl)
  exm_2_BadNumber := of_decide_eq_true (c.fact 50 (f := (fun K => decide (PySem.W.exmOne K (.ref (caK K 2)) (.ref (caK K 1)) = some false))) rfl)
  kit_2_LadderError := of_decide_eq_true (c.fact 51 (f := (fun K => decide (PySem.W.kitOne K (.ref (caK K 2)) (.ref (caK K 0)) = some true))) rfl)
  kit_2_ValueError := of_decide_eq_true (c.fact 52 (f := (fun K => decide (PySem.W.kitOne K (.ref (caK K 2)) (.type "ValueError") = some true))) rfl)
  own_Chances := ownB_ok (c.fact 53 (f := (fun K => ownB K (caK K 3))) rfl)
  na_Chances_own_rows := eqO_ok (c.fact 54 (f := (fun K => eqO (PySem.W.findIn K (.ref (caK K 3)) "own_rows") (some none))) rfl)
  mk_Chances := He.mkr_ok (c.fact 55 (f := (fun K => (He.Fa.mkr "Chances").ok K)) rfl)
  du_Chances___call__ := dunB_ok (c.fact 56 (f := (fun K => dunB "__call__" K (caK K 3))) rfl)
abbrev R : PySem.W.OpenRow := PySem.W.OpenLaw.row PySem.Challenge.rw_liftedladders_k62_chances_refused
abbrev hk : PySem.W.Hook := hookL 7 fa fn er
def ob (s : PySem.W.SharedT) : AlL := obsLG 7 fa fn er (HandSHeadRun.getT s)
theorem ob_eq (s : PySem.W.SharedT) : ob s = hk.obs s.abs := obsLG_eq (HandSHeadRun.getT_eq s)
def loose : List Str := (["is_integer", "is_whole", "common_divisor", "is_fraction", "fraction", "added", "less", "multiplied", "is_above", "is_strength", "is_chance_row", "_law_pool", "_law_draw", "_law_pick", "_law_small", "_law_row", "_law_told", "_law_asked", "LadderError", "BadNumber", "BadChances", "Chances", "MOST_STRENGTH", "MOST_ROWS", "NONE", "ALL"] : List Str)
theorem run (w : World) : HandSHeadRun.RunEq R (PySem.W.view R.prog [30]) hk ob 8000 loose w := by
  intro os
  kernel_rfl
end K62
open PySem PySem.W PySem.Calls PyProof.Rows in
theorem K62.holds_of (p : K62.Plain) : PySem.Challenge.rw_liftedladders_k62_chances_refused.Holds := by
  w_on; o_law
  refine HandSHeadRun.head_any (r := OpenLaw.row PySem.Challenge.rw_liftedladders_k62_chances_refused) (q := view (OpenLaw.row PySem.Challenge.rw_liftedladders_k62_chances_refused).prog [30]) (H := K62.hk) (ob := K62.ob) (M := 8000) (loose := K62.loose) (d := HandSHeadRun.topDef (OpenLaw.row PySem.Challenge.rw_liftedladders_k62_chances_refused).prog 30) (kwd := []) K62.ob_eq
    (by kernel_rfl) (fun s => by kernel_rfl) K62.run (by kernel_rfl) (by kernel_rfl) (by kernel_rfl) (by rfl) (by first | assumption | decide +kernel) (by decide +kernel) ⟨rfl, rfl, rfl, rfl, rfl, by decide +kernel⟩ ?hw ?hc
  case hw => w_witness2
  case hc =>
    refine Lad.walk_W (l := PySem.Challenge.rw_liftedladders_k62_chances_refused) (n := 63) (k := 8) (x := "_law_script") rfl (by decide) (by kernel_rfl) ⟨rfl, by decide, by decide⟩ ?F
    intro w mg fa h Y G hmg0
    obtain ⟨K, KX, c⟩ := Y
    have hmg : mg ("law" : PySem.Str) = some (.ref fa) := by
      have e : (HandSHeadRun.topDef (OpenLaw.row PySem.Challenge.rw_liftedladders_k62_chances_refused).prog 30).name = ("law" : PySem.Str) := by kernel_rfl
      rw [← e]
      exact hmg0
    have t := K62.txt KX G c
    have e := hmg.symm.trans t.g_law
    cases e
    refine ⟨K, Lad.fdOf K (He.ga K "law"), _, KX, ?_, fun H a ns hl hO hS => Lad.sp_law (S := ⟨K, (K62.TT K).ca, (K62.TT K).nm, (K62.TT K).fld, (K62.TT K).ex⟩) t.nl p hl hO hS, fun base _ _ => K62.ok_law t⟩
    obtain ⟨oc, od, kV, doc, pm, an, cdv, ct, osl, e, lk, hcd⟩ := t.F_law.ex
    rw [e]
    exact fun s u => BindsTo.of_eq rfl
end
/-! ## K62P1 -/
section
set_option maxRecDepth 10000
namespace K62
open PySem L2 Lad
theorem q_draw : c__law_draw = Drw.c__law_draw := rfl
theorem q_pool : c__law_pool = Drw.c_poolB := rfl
theorem q_isf : c_is_fraction = Num.c_is_fraction := rfl
theorem q_isi : c_is_integer = Num.c_is_integer := rfl
theorem q_abv : c_is_above = Num.c_is_above := rfl
theorem q_add : c_added = Num.c_added 1 := rfl
/-! ### small fractions -/
theorem sm_step (h : Hea) (o u y : Option Val) (v : Val) (vs : List Val) (a b : Nat) : forL (gN 4) l__law_small_0 (v :: vs) [o, u, some (.int a), some (.int b), y] h =
    if b = 0 then forL (gN 4) l__law_small_0 vs [o, u, some (.int a), some (.int 0), some v] h else forL (gN 4) l__law_small_0 vs [o, u, some (.int b), some (.int ((a % b : Nat) : Int)), some v] h := by
  conv => lhs; unfold forL
  by_cases hz : b = 0
  · subst hz
    simp [l__law_small_0]
  · have hne : (b : Int) ≠ 0 := by omega
    simp [l__law_small_0, hz, Nat.pos_of_ne_zero hz, hne, nmod]
theorem sm_zero (h : Hea) (o u : Option Val) (a : Nat) : ∀ (vs : List Val) (y : Option Val), ∃ z, forL (gN 4) l__law_small_0 vs [o, u, some (.int a), some (.int 0), y] h = .nx [o, u, some (.int a), some (.int 0), z] h
  | [], y => ⟨y, rfl⟩
  | v :: vs, y => by
    obtain ⟨z, e⟩ := sm_zero h o u a vs (some v)
    refine ⟨z, ?_⟩
    have := sm_step h o u y v vs a 0
    rw [if_pos rfl] at this
    exact this.trans e
theorem sm_loop (h : Hea) (o u : Option Val) : ∀ (k : Nat) (xs : List Val) (a b : Nat) (y : Option Val), b < 2 ^ k → 2 * k + 2 ≤ xs.length → ∃ z, forL (gN 4) l__law_small_0 xs [o, u, some (.int a), some (.int b), y] h = .nx [o, u, some (.int (Nat.gcd a b)), some (.int 0), z] h
  | 0, xs, a, b, y, hk, hn => by
    have hz : b = 0 := by simp at hk; exact hk
    subst hz
    simpa using sm_zero h o u a xs y
  | k + 1, v :: w :: vs, a, b, y, hk, hn => by
    rw [sm_step]
    by_cases hz : b = 0
    · subst hz
      rw [if_pos rfl]
      simpa using sm_zero h o u a (w :: vs) (some v)
    · rw [if_neg hz, sm_step]
      by_cases hr : a % b = 0
      · rw [if_pos hr, ← gcd_step a b, hr]
        simpa using sm_zero h o u b vs (some w)
      · rw [if_neg hr, ← gcd_step a b, ← gcd_step b (a % b)]
        refine sm_loop h o u k vs _ _ _ ?_ (by simp at hn; omega)
        have := half (m := a) (n := b) (by omega) (by omega)
        have e : 2 ^ (k + 1) = 2 * 2 ^ k := by rw [Nat.pow_succ]; omega
        omega
  | k + 1, [], _, _, _, _, hn => by simp at hn
  | k + 1, [_], _, _, _, _, hn => by simp at hn
def fr (x u : Int) : Val := .tup [.int (x.fdiv (Int.gcd x u)), .int (u.fdiv (Int.gcd x u))]
theorem src400 (e : En) (h : Hea) : iRng1V (aCons (eC (.int 400)) aNil) e h = .ok (srcFix (rangeV 0 400)) h := rfl
theorem small_ok (h : Hea) {x u : Int} (hu : u ≠ 0) (bu : u.natAbs < 2 ^ 100) : c__law_small [.int x, .int u] h = .ok (fr x u) h := by
  have l9 : ((Int.gcd x u : Nat) : Int).natAbs.log2 < 9000 := log2_lt (k := 9000) (by
    have h1 : Int.gcd x u ≤ u.natAbs := Nat.le_of_dvd (by omega) (Int.gcd_dvd_natAbs_right x u)
    have : (2 : Nat) ^ 100 ≤ 2 ^ 9000 := Nat.pow_le_pow_right (by decide) (by decide)
    omega) (by decide)
  have g0 : ¬ ((Int.gcd x u : Nat) : Int) = 0 := by
    have := Int.gcd_pos_of_ne_zero_right x hu
    omega
  obtain ⟨z, ez⟩ := sm_loop h (some (.int x)) (some (.int u)) 100 (rangeV 0 400) x.natAbs u.natAbs none bu (by simp [rangeV])
  have eg : Nat.gcd x.natAbs u.natAbs = Int.gcd x u := rfl
  rw [eg] at ez
  refine (run_rt (fn := fin) rfl (d := fr x u) (h' := h) ?_).trans (fin_same _ _)
  unfold b__law_small
  refine seq_nx (e1 := [some (.int x), some (.int u), some (.int (x.natAbs : Int)), some (.int (u.natAbs : Int)), none]) (h1 := h) (by simp [startE]) ?_
  refine seq_nx ((for_eq (src400 _ _)).trans ez) ?_
  generalize hg : ((Int.gcd x u : Nat) : Int) = g at *
  simp [g0, l9, fr, hg]
end K62
end
/-! ## K62P2 -/
section
set_option maxRecDepth 10000
namespace K62
open PySem L2 Lad
structure Tri (x y z u : Int) : Prop where
  u1 : 1 ≤ u
  u6 : u ≤ 6
  x0 : 0 ≤ x
  y0 : 0 ≤ y
  z0 : 0 ≤ z
  su : x + y + z = u
def rowV (bd x y z u : Int) : Val := .tup [.int bd, fr x u, fr y u, fr z u]
def IsRow (bd : Int) (v : Val) : Prop := ∃ x y z u, Tri x y z u ∧ v = rowV bd x y z u
theorem l9 {m : Int} (h0 : 0 < m) (h : m < 1000) : m.natAbs.log2 < 9000 := log2_lt (k := 9000) (by
  have : (1000 : Nat) ≤ 2 ^ 9000 := Nat.le_trans (by decide : 1000 ≤ 2 ^ 10) (Nat.pow_le_pow_right (by decide) (by decide))
  omega) (by decide)
theorem row_ok (ns : List Int) (t : Hea) {a b : Int} (bd : Int) (P : PoolOk a b) : ∃ v a' b', IsRow bd v ∧ PoolOk a' b' ∧ c__law_row [.ref 1, .int bd] (Hp2 ns a b t) = .ok v (Hp2 ns a' b' t) := by
  obtain ⟨r1, a1, b1, h10, h11, P1, e1⟩ := Drw.draw_ok ns t (m := 6) P (by decide) (by decide)
  obtain ⟨r2, a2, b2, h20, h21, P2, e2⟩ := Drw.draw_ok ns t (m := 1 + r1 + 1) P1 (by omega) (l9 (by omega) (by omega))
  obtain ⟨r3, a3, b3, h30, h31, P3, e3⟩ := Drw.draw_ok ns t (m := 1 + r1 - r2 + 1) P2 (by omega) (l9 (by omega) (by omega))
  refine ⟨rowV bd r2 r3 (1 + r1 - r2 - r3) (1 + r1), a3, b3, ⟨_, _, _, _, ⟨by omega, by omega, h20, h30, by omega, by omega⟩, rfl⟩, P3, ?_⟩
  have bu : (1 + r1).natAbs < 2 ^ 100 := by omega
  have s1 := small_ok (Hp2 ns a3 b3 t) (x := r2) (u := 1 + r1) (by omega) bu
  have s2 := small_ok (Hp2 ns a3 b3 t) (x := r3) (u := 1 + r1) (by omega) bu
  have s3 := small_ok (Hp2 ns a3 b3 t) (x := 1 + r1 - r2 - r3) (u := 1 + r1) (by omega) bu
  refine (run_rt (fn := fin) rfl (d := rowV bd r2 r3 (1 + r1 - r2 - r3) (1 + r1)) (h' := Hp2 ns a3 b3 t) ?_).trans (fin_len rfl)
  unfold b__law_row
  rw [q_draw]
  simp [startE, e1, e2, e3, s1, s2, s3]
  rfl
theorem IsRow.und {bd : Int} {v : Val} (r : IsRow bd v) (n : Nat) : v.und n = true := by
  obtain ⟨x, y, z, u, _, rfl⟩ := r
  rfl
theorem IsRow.frz {bd : Int} {v : Val} (r : IsRow bd v) (k n : Nat) (h : Hea) : frz (k + 3) n h v = some v := by
  obtain ⟨x, y, z, u, _, rfl⟩ := r
  rfl
end K62
end
/-! ## K62P3 -/
section
set_option maxRecDepth 10000
namespace K62
open PySem L2 Lad
abbrev pp (x u : Int) : Int := x.fdiv (Int.gcd x u)
abbrev qq (x u : Int) : Int := u.fdiv (Int.gcd x u)
/-! ### all small triples -/
def ch1B (p q : Int) : Bool := decide (0 < q ∧ Int.gcd p q = 1 ∧ 0 ≤ p ∧ q ≤ 6 ∧ p ≤ q)
theorem fin1 : ∀ u, u < 7 → ∀ x, x < 7 → 1 ≤ u → x ≤ u → ch1B (pp (x : Nat) (u : Nat)) (qq (x : Nat) (u : Nat)) = true := by decide +kernel
abbrev ap (a b c d : Int) : Int := Num.fp (a * d + c * b) (b * d)
abbrev aq (a b c d : Int) : Int := Num.fq (a * d + c * b) (b * d)
def tri3 (x y z u : Int) : Bool := decide (ap (ap (pp x u) (qq x u) (pp y u) (qq y u)) (aq (pp x u) (qq x u) (pp y u) (qq y u)) (pp z u) (qq z u) = 1 ∧ aq (ap (pp x u) (qq x u) (pp y u) (qq y u)) (aq (pp x u) (qq x u) (pp y u) (qq y u)) (pp z u) (qq z u) = 1 ∧
  0 < aq (pp x u) (qq x u) (pp y u) (qq y u) ∧ aq (pp x u) (qq x u) (pp y u) (qq y u) < 100 ∧ 0 ≤ ap (pp x u) (qq x u) (pp y u) (qq y u) ∧ ap (pp x u) (qq x u) (pp y u) (qq y u) < 100)
theorem fin2 : ∀ u, u < 7 → ∀ x, x < 7 → ∀ y, y < 7 → 1 ≤ u → x + y ≤ u → tri3 (x : Nat) (y : Nat) ((u - x - y : Nat) : Nat) (u : Nat) = true := by decide +kernel
theorem Tri.n {x y z u : Int} (t : Tri x y z u) : ∃ x' y' u' : Nat, x = x' ∧ y = y' ∧ u = u' ∧ z = ((u' - x' - y' : Nat) : Int) ∧ 1 ≤ u' ∧ u' < 7 ∧ x' < 7 ∧ y' < 7 ∧ x' + y' ≤ u' := by
  obtain ⟨h1, h2, h3, h4, h5, h6⟩ := t
  exact ⟨x.toNat, y.toNat, u.toNat, by omega, by omega, by omega, by omega, by omega, by omega, by omega, by omega, by omega⟩
/-- what a chance is -/
structure Ch1 (p q : Int) : Prop where
  q0 : 0 < q
  cp : Int.gcd p q = 1
  p0 : 0 ≤ p
  q6 : q ≤ 6
  pq : p ≤ q
theorem Tri.chX {x y z u : Int} (t : Tri x y z u) : Ch1 (pp x u) (qq x u) := by
  obtain ⟨x', y', u', rfl, rfl, rfl, rfl, h1, h2, h3, h4, h5⟩ := t.n
  obtain ⟨a, b, c, d, e⟩ := of_decide_eq_true (fin1 u' h2 x' h3 h1 (by omega))
  exact ⟨a, b, c, d, e⟩
theorem Tri.chY {x y z u : Int} (t : Tri x y z u) : Ch1 (pp y u) (qq y u) := by
  obtain ⟨x', y', u', rfl, rfl, rfl, rfl, h1, h2, h3, h4, h5⟩ := t.n
  obtain ⟨a, b, c, d, e⟩ := of_decide_eq_true (fin1 u' h2 y' h4 h1 (by omega))
  exact ⟨a, b, c, d, e⟩
theorem Tri.chZ {x y z u : Int} (t : Tri x y z u) : Ch1 (pp z u) (qq z u) := by
  obtain ⟨x', y', u', rfl, rfl, rfl, rfl, h1, h2, h3, h4, h5⟩ := t.n
  obtain ⟨a, b, c, d, e⟩ := of_decide_eq_true (fin1 u' h2 (u' - x' - y') (by omega) h1 (by omega))
  exact ⟨a, b, c, d, e⟩
theorem sm (x : Int) (h0 : 0 ≤ x) (h : x < 10000) (y : Int) : mulOk x y = true := mulOk_l (by omega)
theorem smr (x : Int) (h0 : 0 ≤ x) (h : x < 10000) (y : Int) : mulOk y x = true := mulOk_r (by omega)
theorem b2 {x : Int} (h0 : 0 ≤ x) (h : x < 10000) : x.natAbs < 2 ^ 2000 := by
  have : (10000 : Nat) ≤ 2 ^ 2000 := Nat.le_trans (by decide : 10000 ≤ 2 ^ 14) (Nat.pow_le_pow_right (by decide) (by decide))
  omega
section
variable (h : Hea) {p q : Int}
theorem part_isf (c : Ch1 p q) : c_is_fraction [.tup [.int p, .int q]] h = .ok (.bl true) h := by
  rw [q_isf, Num.isf_ok h p q (b2 (by have := c.q0; omega) (by have := c.q6; omega)), decide_eq_true ⟨c.q0, c.cp⟩]
theorem part_abv (c : Ch1 p q) : c_is_above [.tup [.int 0, .int 1], .tup [.int p, .int q]] h = .ok (.bl false) h := by
  rw [q_abv, Num.above_ok h 0 1 p q (sm 0 (by decide) (by decide) _) (smr 1 (by decide) (by decide) _), decide_eq_false (by have := c.p0; omega)]
end
theorem mul_lt {a b : Int} (ha : 0 ≤ a) (ha2 : a < 100) (hb : 0 < b) (hb2 : b < 100) : 0 ≤ a * b ∧ a * b < 10000 := by
  refine ⟨Int.mul_nonneg ha (by omega), ?_⟩
  have h1 : a * b ≤ 99 * b := Int.mul_le_mul_of_nonneg_right (by omega) (by omega)
  omega
theorem strength_ok (h : Hea) (a : Int) : c_is_strength [.int a] h = .ok (.bl (decide (0 ≤ a ∧ a ≤ 99))) h := by
  unfold c_is_strength runB runG b_is_strength
  simp [startE, q_isi, Num.isi_ok, k_MOST_STRENGTH]
theorem cut3 (a b c d : Val) : cutL [a, b, c, d] (some 1) none = [b, c, d] := rfl
theorem row_true (h : Hea) {bd : Int} {v : Val} (r : IsRow bd v) (h0 : 0 ≤ bd) (h1 : bd ≤ 99) : c_is_chance_row [v] h = .ok (.bl true) h := by
  obtain ⟨x, y, z, u, t, rfl⟩ := r
  have cx := t.chX
  have cy := t.chY
  have cz := t.chZ
  have t3 : tri3 x y z u = true := by
    obtain ⟨x', y', u', rfl, rfl, rfl, rfl, h1, h2, h3, h4, h5⟩ := t.n
    exact fin2 u' h2 x' h3 y' h4 h1 h5
  unfold tri3 at t3
  obtain ⟨e1, e2, e3, e4, e5, e6⟩ := of_decide_eq_true t3
  have ex : fr x u = .tup [.int (pp x u), .int (qq x u)] := rfl
  have ey : fr y u = .tup [.int (pp y u), .int (qq y u)] := rfl
  have ez : fr z u = .tup [.int (pp z u), .int (qq z u)] := rfl
  unfold rowV
  rw [ex, ey, ez]
  generalize pp x u = px at *
  generalize qq x u = qx at *
  generalize pp y u = py at *
  generalize qq y u = qy at *
  generalize pp z u = pz at *
  generalize qq z u = qz at *
  obtain ⟨x1, x2, x3, x4, x5⟩ := id cx
  obtain ⟨y1, y2, y3, y4, y5⟩ := id cy
  obtain ⟨z1, z2, z3, z4, z5⟩ := id cz
  have mxy := mul_lt (a := qx) (b := qy) (by omega) (by omega) y1 (by omega)
  have pxy : 0 < qx * qy := Int.mul_pos x1 y1
  have a1 : c_added [.tup [.int px, .int qx], .tup [.int py, .int qy]] h = .ok (.tup [.int (ap px qx py qy), .int (aq px qx py qy)]) h := by
    rw [q_add]
    exact Num.added_ok 1 h px qx py qy (sm _ (by omega) (by omega) _) (sm _ (by omega) (by omega) _) (sm _ (by omega) (by omega) _) (by omega) (b2 mxy.1 mxy.2)
  generalize ap px qx py qy = sp at *
  generalize aq px qx py qy = sq at *
  have msz := mul_lt (a := sq) (b := qz) (by omega) (by omega) z1 (by omega)
  have psz : 0 < sq * qz := Int.mul_pos e3 z1
  have a2 : c_added [.tup [.int sp, .int sq], .tup [.int pz, .int qz]] h = .ok (.tup [.int 1, .int 1]) h := by
    rw [q_add, Num.added_ok 1 h sp sq pz qz (sm _ (by omega) (by omega) _) (sm _ (by omega) (by omega) _) (sm _ (by omega) (by omega) _) (by omega) (b2 msz.1 msz.2)]
    show Res.ok (Val.tup [.int (ap sp sq pz qz), .int (aq sp sq pz qz)]) h = _
    rw [e1, e2]
  have ix0 : ∀ (a b c d : Val), oIx h (.tup [a, b, c, d]) (.int 0) = some a := fun _ _ _ _ => rfl
  have ix1 : ∀ (a b c d : Val), oIx h (.tup [a, b, c, d]) (.int 1) = some b := fun _ _ _ _ => rfl
  have ix2 : ∀ (a b c d : Val), oIx h (.tup [a, b, c, d]) (.int 2) = some c := fun _ _ _ _ => rfl
  have ix3 : ∀ (a b c d : Val), oIx h (.tup [a, b, c, d]) (.int 3) = some d := fun _ _ _ _ => rfl
  have st := strength_ok h bd
  rw [decide_eq_true ⟨h0, h1⟩] at st
  refine (run_rt (fn := fin) rfl (d := .bl true) (h' := h) ?_).trans (fin_same _ _)
  unfold b_is_chance_row
  refine seq_if_no (h1 := h) (by simp [startE, oIsi, tyK, isTB, ix0, st]) ?_
  refine seq_if_no (h1 := h) ?_ (by simp [startE, ix1, ix2, ix3, a1, a2, k_ALL])
  have ec : lComp [1] (iSeq (eCutT (eVar 0) (some (eC (.int 1))) none)) (gN 1) eYes (eAnd (eCall c_is_fraction (aCons (eVar 1) aNil)) (eUn oNot (eCall c_is_above (aCons (eC k_NONE) (aCons (eVar 1) aNil))))) (startE 2 [.tup [.int bd, .tup [.int px, .int qx], .tup [.int py, .int qy], .tup [.int pz, .int qz]]]) h = .ok [.bl true, .bl true, .bl true] h := by
    rw [comp_eq (xs := [.tup [.int px, .int qx], .tup [.int py, .int qy], .tup [.int pz, .int qz]]) (h1 := h) (by simp [startE, eCutT, eOpt, cut3]) (by simp)]
    simp [compL, wipeE, startE, part_isf h cx, part_isf h cy, part_isf h cz, k_NONE, part_abv h cx, part_abv h cy, part_abv h cz]
  simp [ec, gAll, bls?]
end K62
end
/-! ## K62P4 -/
section
set_option maxRecDepth 10000
namespace Lad
open PySem L2
theorem eq_self {h : Hea} {v : Val} {p : PyData} (e : toD 60 h v = some p) (s : SeqAt.shaped p = true) : eqB h v v = some true := by
  unfold eqB
  rw [e]
  dsimp only
  rw [if_pos ⟨s, s⟩, SeqAt.eqv_refl p (SeqAt.canLay_of_shaped s)]
@[simp] theorem en_eq (f : En → Hea → Res Val) (e : En) (h : Hea) : iEnumS f e h = (f e h).bind fun d h1 => match d with
  | .ref i => if (lstAt h1 i).isSome = true then .ok (srcEnum i) h1 else .stuck
  | .tup xs => .ok (srcFix (enumFrom 0 xs)) h1
  | .lst xs => .ok (srcFix (enumFrom 0 xs)) h1
  | _ => .stuck := rfl
theorem atIN {α : Type} (xs : List α) (k : Nat) : atI xs (k : Int) = xs[k]? := by
  unfold atI ixN
  by_cases hk : k < xs.length
  · rw [if_pos (by omega), if_pos (by omega)]
    simp
  · rw [if_pos (by omega), if_neg (by omega)]
    simp; omega
theorem atI_last {α : Type} (xs : List α) (h : xs ≠ []) : atI xs (-1) = some (xs.getLast h) := by
  have hl : 0 < xs.length := List.length_pos_iff.mpr h
  unfold atI ixN
  rw [if_neg (by decide), if_pos (by omega)]
  have : ((-1 : Int) + (xs.length : Int)).toNat = xs.length - 1 := by omega
  simp only [Option.bind_some, this]
  rw [List.getElem?_eq_getElem (by omega), List.getLast_eq_getElem]
end Lad
namespace K62
open PySem L2 Lad
theorem IsRow.ix0 {bd : Int} {v : Val} (r : IsRow bd v) (h : Hea) : oIx h v (.int 0) = some (.int bd) := by
  obtain ⟨x, y, z, u, _, rfl⟩ := r
  rfl
/-- rows with ascending borders -/
structure Asc (rs : List Val) (bs : List Int) : Prop where
  len : rs.length = bs.length
  row : ∀ (i : Nat) (v : Val) (b : Int), rs[i]? = some v → bs[i]? = some b → IsRow b v ∧ 0 ≤ b ∧ b ≤ 99
  zer : bs[0]? = some 0
  asc : ∀ (i : Nat) (b c : Int), bs[i]? = some b → bs[i + 1]? = some c → b < c
  most : bs.length ≤ 6
theorem init_turn {rs ys : List Val} {bs : List Int} (A : Asc rs bs) (h : Hea) (v : Val) (hv : itemsOf h v = some ys) (self : Option Val) (k : Nat) (hy : ∀ i, i ≤ k → ys[i]? = rs[i]?) (w : Val) (hw : ys[k]? = some w) :
    l_Chances___init___0 [self, some v, some (.int k), some w] h = .nx [self, some v, some (.int k), some w] h := by
  have hw := (hy k (Nat.le_refl _)).symm.trans hw
  have hk : k < bs.length := by rw [← A.len]; exact (List.getElem?_eq_some_iff.mp hw).1
  have hb : bs[k]? = some bs[k] := List.getElem?_eq_getElem hk
  obtain ⟨r, h0, h1⟩ := A.row k w bs[k] hw hb
  have t := row_true h r h0 h1
  unfold l_Chances___init___0
  by_cases hz : k = 0
  · subst hz
    have e0 : bs[0] = 0 := by
      have := A.zer
      rw [hb] at this
      exact Option.some.inj this
    rw [e0] at r
    refine seq_if_no (h1 := h) (by simp [t, r.ix0]) ?_
    exact if_no (by simp)
  · have hk1 : k - 1 < bs.length := by omega
    have hk2 : k - 1 < rs.length := by rw [A.len]; exact hk1
    obtain ⟨r', h0', h1'⟩ := A.row (k - 1) rs[k - 1] bs[k - 1] (List.getElem?_eq_getElem hk2) (List.getElem?_eq_getElem hk1)
    have lt := A.asc (k - 1) bs[k - 1] bs[k] (List.getElem?_eq_getElem hk1) (by rw [show k - 1 + 1 = k by omega]; exact hb)
    have ei : oIx h v (.int ((k : Int) - 1)) = some rs[k - 1] := by
      show (match itemsOf h v with | some xs => L2.atI xs ((k : Int) - 1) | none => _) = _
      rw [hv]
      show L2.atI ys ((k : Int) - 1) = _
      rw [show ((k : Int) - 1) = ((k - 1 : Nat) : Int) by omega, atIN, hy (k - 1) (by omega)]
      exact List.getElem?_eq_getElem hk2
    have kz : ¬ (k : Int) = 0 := by omega
    have kp : (0 : Int) < k := by omega
    generalize bs[k] = b1 at *
    generalize bs[k - 1] = b0 at *
    generalize rs[k - 1] = w0 at *
    generalize (k : Int) = kk at *
    refine seq_if_no (h1 := h) (by simp [t, kz]) ?_
    exact if_no (by simp [kp, r.ix0, ei, r'.ix0]; omega)
theorem init_pre {rs ys : List Val} {bs : List Int} (A : Asc rs bs) (h : Hea) (v : Val) (hv : itemsOf h v = some ys) (self : Option Val) (m : Nat) (hm : m ≤ ys.length) (hy : ∀ i, i < m → ys[i]? = rs[i]?) : ∀ (n k : Nat) (x y : Option Val), k + n = m →
    ∃ x' y', forL (gT [2, 3]) l_Chances___init___0 (enumFrom k (ys.drop k)) [self, some v, x, y] h = forL (gT [2, 3]) l_Chances___init___0 (enumFrom m (ys.drop m)) [self, some v, x', y'] h := by
  intro n
  induction n with
  | zero =>
    intro k x y hk
    have : k = m := by omega
    subst this
    exact ⟨x, y, rfl⟩
  | succ n ih =>
    intro k x y hk
    have hl : k < ys.length := by omega
    rw [List.drop_eq_getElem_cons hl]
    have t := init_turn A h v hv self k (fun i hi => hy i (by omega)) ys[k] (List.getElem?_eq_getElem hl)
    obtain ⟨x', y', e⟩ := ih (k + 1) (some (.int k)) (some ys[k]) (by omega)
    refine ⟨x', y', ?_⟩
    show forL (gT [2, 3]) l_Chances___init___0 (.tup [.int (k : Nat), ys[k]] :: enumFrom (k + 1) (ys.drop (k + 1))) _ _ = _
    conv => lhs; unfold forL
    simp only [ap_gT, ap_all1, ap_all0]
    show (match l_Chances___init___0 [self, some v, some (.int k), some ys[k]] h with | .nx e2 h2 => _ | .ct e2 h2 => _ | .bk e2 h2 => _ | r => r) = _
    rw [t]
    exact e
theorem init_loop {rs : List Val} {bs : List Int} (A : Asc rs bs) (h : Hea) (v : Val) (hv : itemsOf h v = some rs) (self : Option Val) (x y : Option Val) :
    ∃ x' y', forL (gT [2, 3]) l_Chances___init___0 (enumFrom 0 rs) [self, some v, x, y] h = .nx [self, some v, x', y'] h := by
  obtain ⟨x', y', e⟩ := init_pre A h v hv self rs.length (Nat.le_refl _) (fun _ _ => rfl) rs.length 0 x y (by omega)
  rw [List.drop_zero, List.drop_eq_nil_of_le (Nat.le_refl _)] at e
  exact ⟨x', y', e⟩
end K62
end
/-! ## K62P5 -/
section
set_option maxRecDepth 10000
namespace K62
open PySem L2 Lad
theorem Asc.mem {rs : List Val} {bs : List Int} (A : Asc rs bs) {v : Val} (hv : v ∈ rs) : ∃ b, IsRow b v := by
  obtain ⟨i, hi, e⟩ := List.getElem_of_mem hv
  have hb : i < bs.length := by rw [← A.len]; exact hi
  exact ⟨bs[i], (A.row i v bs[i] (by rw [List.getElem?_eq_getElem hi, e]) (List.getElem?_eq_getElem hb)).1⟩
theorem mapO_rows (k n : Nat) (h : Hea) : ∀ (rs : List Val), (∀ v ∈ rs, ∃ b, IsRow b v) → mapO (frz (k + 3) n h) rs = some rs
  | [], _ => rfl
  | v :: vs, w => by
    obtain ⟨b, r⟩ := w v List.mem_cons_self
    unfold mapO
    rw [r.frz, mapO_rows k n h vs fun u hu => w u (List.mem_cons_of_mem _ hu)]
abbrev obj (rs : List Val) : Val := .obj 3 [0] [.tup rs]
theorem init_ok (ns : List Int) (a b : Int) {rs : List Val} {bs : List Int} (A : Asc rs bs) (v : Val) (hv : v = .lst rs ∨ v = .tup rs) :
    c_Chances___init__ [.ref 2, v] (Hp2 ns a b [.ins 3 []]) = .ok .non (Hp2 ns a b [.ins 3 [(0, .tup rs)]]) := by
  have hi : itemsOf (Hp2 ns a b [.ins 3 []]) v = some rs := by rcases hv with rfl | rfl <;> rfl
  have hl : (rs.length : Int) ≤ 6 := by have := A.most; have := A.len; omega
  have hl1 : (1 : Int) ≤ rs.length := by
    have h0 := A.zer
    have := (List.getElem?_eq_some_iff.mp h0).1
    have := A.len
    omega
  obtain ⟨x', y', e⟩ := init_loop A (Hp2 ns a b [.ins 3 []]) v hi (some (.ref 2)) none none
  have es : iEnumS (eVar 1) [some (.ref 2), some v, none, none] (Hp2 ns a b [.ins 3 []]) = .ok (srcFix (enumFrom 0 rs)) (Hp2 ns a b [.ins 3 []]) := by rcases hv with rfl | rfl <;> rfl
  refine (run_nx (fn := fin) rfl (e' := [some (.ref 2), some v, x', y']) (h' := Hp2 ns a b [.ins 3 [(0, .tup rs)]]) ?_).trans (fin_len rfl)
  unfold b_Chances___init__
  refine seq_if_no (h1 := Hp2 ns a b [.ins 3 []]) ?_ ?_
  · have el : eIt gLen (eVar 1) (startE 4 [.ref 2, v]) (Hp2 ns a b [.ins 3 []]) = .ok (.int rs.length) (Hp2 ns a b [.ins 3 []]) := by simp [startE, hi]
    have et : oIsi [.list, .tuple] (Hp2 ns a b [.ins 3 []]) v = some (.bl true) := by rcases hv with rfl | rfl <;> rfl
    generalize (rs.length : Int) = n at *
    have e2 : eChain oLe oLe (eC (.int 1)) (eIt gLen (eVar 1)) (eC k_MOST_ROWS) (startE 4 [.ref 2, v]) (Hp2 ns a b [.ins 3 []]) = .ok (.bl true) (Hp2 ns a b [.ins 3 []]) := by
      simp only [ap_chain, ap_c, ap_bindOk, el, Lad.op_le, decide_eq_true hl1, k_MOST_ROWS, decide_eq_true hl, ap_optS]
    have e3 : eVar 1 (startE 4 [.ref 2, v]) (Hp2 ns a b [.ins 3 []]) = .ok v (Hp2 ns a b [.ins 3 []]) := rfl
    simp only [ap_or, ap_un, e3, ap_bindOk, et, ap_optS, Lad.op_not, e2, Bool.not_true]
  · refine seq_nx ((for_eq es).trans e) ?_
    rcases hv with rfl | rfl <;> rfl
theorem mk_ok (ns : List Int) (a b : Int) {rs : List Val} {bs : List Int} (A : Asc rs bs) (v : Val) (hv : v = .lst rs ∨ v = .tup rs) :
    mkEnd fin (Hp2 ns a b []) (c_Chances___init__ [.ref 2, v] (Hp2 ns a b [.ins 3 []])) = .ok (obj rs) (Hp2 ns a b []) := by
  rw [init_ok ns a b A v hv]
  show (match frz 40 2 (Hp2 ns a b [.ins 3 [(0, .tup rs)]]) (.ref 2) with | some d' => Res.ok d' (Hp2 ns a b []) | none => _) = _
  have : frz 40 2 (Hp2 ns a b [.ins 3 [(0, .tup rs)]]) (.ref 2) = some (obj rs) := by
    have e := mapO_rows 35 2 (Hp2 ns a b [.ins 3 [(0, .tup rs)]]) rs fun v hv => A.mem hv
    simp [frz, mapO, e]
  rw [this]
end K62
end
/-! ## K62P6 -/
section
set_option maxRecDepth 10000
namespace K62
open PySem L2 Lad
/-! ### refusals -/
theorem turnA (h : Hea) (self v : Option Val) (kk : Int) (w : Val) (hb : c_is_chance_row [w] h = .ok (.bl false) h) : l_Chances___init___0 [self, v, some (.int kk), some w] h = .exc 2 (.int kk) [self, v, some (.int kk), some w] h := by
  unfold l_Chances___init___0
  simp [hb]
theorem turnC (h : Hea) (self v : Option Val) {bd : Int} {w : Val} (r : IsRow bd w) (h0 : 0 < bd) (h1 : bd ≤ 99) : l_Chances___init___0 [self, v, some (.int 0), some w] h = .exc 2 (.int 0) [self, v, some (.int 0), some w] h := by
  have t := row_true h r (by omega) h1
  have : ¬ bd = 0 := by omega
  unfold l_Chances___init___0
  simp [t, r.ix0, this]
theorem turnB (h : Hea) (self : Option Val) (v : Val) {ys : List Val} (hv : itemsOf h v = some ys) (k : Nat) (hk : 0 < k) {bd b0 : Int} {w w0 : Val} (r : IsRow bd w) (h0 : 0 ≤ bd) (h1 : bd ≤ 99) (hw0 : ys[k - 1]? = some w0) (r0 : IsRow b0 w0) (le : bd ≤ b0) :
    l_Chances___init___0 [self, some v, some (.int k), some w] h = .exc 2 (.int k) [self, some v, some (.int k), some w] h := by
  have t := row_true h r h0 h1
  have ei : oIx h v (.int ((k : Int) - 1)) = some w0 := by
    show (match itemsOf h v with | some xs => L2.atI xs ((k : Int) - 1) | none => _) = _
    rw [hv]
    show L2.atI ys ((k : Int) - 1) = _
    rw [show ((k : Int) - 1) = ((k - 1 : Nat) : Int) by omega, atIN]
    exact hw0
  have kz : ¬ (k : Int) = 0 := by omega
  have kp : (0 : Int) < k := by omega
  unfold l_Chances___init___0
  generalize (k : Int) = kk at *
  simp [t, kz, kp, r.ix0, ei, r0.ix0, le]
abbrev Hi (ns : List Int) (a b : Int) : Hea := Hp2 ns a b [.ins 3 []]
/-- __init__ of rows of which the one at m is refused -/
theorem init_exc (ns : List Int) (a b : Int) {rs ys : List Val} {bs : List Int} (A : Asc rs bs) (m : Nat) (hy : ∀ i, i < m → ys[i]? = rs[i]?) (w : Val) (hw : ys[m]? = some w) (hl : ys.length ≤ 6)
    (t : ∀ self, ∃ e', l_Chances___init___0 [self, some (.lst ys), some (.int m), some w] (Hi ns a b) = .exc 2 (.int m) e' (Hi ns a b)) : c_Chances___init__ [.ref 2, .lst ys] (Hi ns a b) = .exc 2 (.int m) (Hi ns a b) := by
  have hm := (List.getElem?_eq_some_iff.mp hw).1
  have hw2 := (List.getElem?_eq_some_iff.mp hw).2
  have hi : itemsOf (Hi ns a b) (.lst ys) = some ys := rfl
  obtain ⟨x', y', e⟩ := init_pre A (Hi ns a b) (.lst ys) hi (some (.ref 2)) m (Nat.le_of_lt hm) hy m 0 none none (by omega)
  obtain ⟨e', et⟩ := t (some (.ref 2))
  have ef : forL (gT [2, 3]) l_Chances___init___0 (enumFrom 0 ys) [some (.ref 2), some (.lst ys), none, none] (Hi ns a b) = .exc 2 (.int m) e' (Hi ns a b) := by
    rw [List.drop_zero] at e
    rw [e, List.drop_eq_getElem_cons hm, hw2]
    show forL (gT [2, 3]) l_Chances___init___0 (.tup [.int (m : Nat), w] :: enumFrom (m + 1) (ys.drop (m + 1))) _ _ = _
    unfold forL
    simp only [ap_gT, ap_all1, ap_all0]
    show (match l_Chances___init___0 [some (.ref 2), some (.lst ys), some (.int m), some w] (Hi ns a b) with | .nx e2 h2 => _ | .ct e2 h2 => _ | .bk e2 h2 => _ | r => r) = _
    rw [et]
  have hl2 : (ys.length : Int) ≤ 6 := by omega
  have hl1 : (1 : Int) ≤ ys.length := by omega
  have es : iEnumS (eVar 1) [some (.ref 2), some (.lst ys), none, none] (Hi ns a b) = .ok (srcFix (enumFrom 0 ys)) (Hi ns a b) := rfl
  refine run_exc (fn := fin) rfl (e' := e') ?_
  unfold b_Chances___init__
  refine seq_if_no (h1 := Hi ns a b) ?_ ?_
  · have el : eIt gLen (eVar 1) (startE 4 [.ref 2, .lst ys]) (Hi ns a b) = .ok (.int ys.length) (Hi ns a b) := by simp [startE, hi]
    have et : oIsi [.list, .tuple] (Hi ns a b) (.lst ys) = some (.bl true) := rfl
    have e3 : eVar 1 (startE 4 [.ref 2, .lst ys]) (Hi ns a b) = .ok (.lst ys) (Hi ns a b) := rfl
    generalize (ys.length : Int) = n at *
    have e2 : eChain oLe oLe (eC (.int 1)) (eIt gLen (eVar 1)) (eC k_MOST_ROWS) (startE 4 [.ref 2, .lst ys]) (Hi ns a b) = .ok (.bl true) (Hi ns a b) := by
      simp only [ap_chain, ap_c, ap_bindOk, el, Lad.op_le, decide_eq_true hl1, k_MOST_ROWS, decide_eq_true hl2, ap_optS]
    exact or_no (not_ok (un_ok e3 et)) (not_ok e2)
  · have : sFor (iEnumS (eVar 1)) (gT [2, 3]) l_Chances___init___0 (startE 4 [.ref 2, .lst ys]) (Hi ns a b) = .exc 2 (.int m) e' (Hi ns a b) := (for_eq es).trans ef
    rw [ap_seq, this]
abbrev H2 (ns : List Int) (a b : Int) : Hea := Hp2 ns a b []
theorem told_exc (ns : List Int) (a b : Int) (v d : Val) (hd : d = .non ∨ ∃ i, d = .int i) (hv : c_Chances___init__ [.ref 2, v] (Hi ns a b) = .exc 2 d (Hi ns a b)) : c__law_told [v] (H2 ns a b) = .ok (.lst [d, .bl true, .bl true]) (H2 ns a b) := by
  have em : eMake 3 c_Chances___init__ (aCons (eVar 0) aNil) (startE 2 [v]) (H2 ns a b) = .exc 2 d (Hi ns a b) := by
    show mkEnd fin (H2 ns a b) (c_Chances___init__ [.ref 2, v] (Hi ns a b)) = _
    rw [hv]
    rfl
  have et : sTry1 sub_BadChances 1 (sEx (eMake 3 c_Chances___init__ (aCons (eVar 0) aNil))) (sRet (eLst (lDisp (aCons (eUn oExF (eVar 1)) (aCons (eUn (oIsX sub_LadderError) (eVar 1)) (aCons (eUn (oIsX sub_ValueError) (eVar 1)) aNil)))))) (startE 2 [v]) (H2 ns a b) = .rt (.lst [d, .bl true, .bl true]) (Hi ns a b) := by
    unfold sTry1
    rw [ap_ex, em]
    rcases hd with rfl | ⟨i, rfl⟩ <;> rfl
  refine (run_rt (fn := fin) rfl (d := .lst [d, .bl true, .bl true]) (h' := Hi ns a b) ?_).trans ?_
  · unfold b__law_told
    rw [ap_seq, et]
  · rcases hd with rfl | ⟨i, rfl⟩ <;> rfl
theorem told_ok (ns : List Int) (a b : Int) {rs : List Val} {bs : List Int} (A : Asc rs bs) (v : Val) (hv : v = .lst rs ∨ v = .tup rs) : c__law_told [v] (H2 ns a b) = .ok (.lst []) (H2 ns a b) := by
  have mk := mk_ok ns a b A v hv
  have em : eMake 3 c_Chances___init__ (aCons (eVar 0) aNil) (startE 2 [v]) (H2 ns a b) = .ok (obj rs) (H2 ns a b) := by
    show mkEnd fin (H2 ns a b) (c_Chances___init__ [.ref 2, v] (Hi ns a b)) = _
    exact mk
  have et : sTry1 sub_BadChances 1 (sEx (eMake 3 c_Chances___init__ (aCons (eVar 0) aNil))) (sRet (eLst (lDisp (aCons (eUn oExF (eVar 1)) (aCons (eUn (oIsX sub_LadderError) (eVar 1)) (aCons (eUn (oIsX sub_ValueError) (eVar 1)) aNil)))))) (startE 2 [v]) (H2 ns a b) = .nx (startE 2 [v]) (H2 ns a b) := by
    unfold sTry1
    rw [ap_ex, em]
    rfl
  refine (run_rt (fn := fin) rfl (d := .lst []) (h' := H2 ns a b) ?_).trans (fin_same _ _)
  unfold b__law_told
  rw [ap_seq, et]
  rfl
/-! ### odd rows -/
def hfv : Val := .tup [.int 1, .int 2]
def zov : Val := .tup [.int 0, .int 1]
def odds (bd : Int) : List Val := [.non, .tup [.int bd, hfv, hfv], .lst [.int bd, hfv, hfv, zov], .tup [.int bd, hfv, hfv, hfv], .tup [.int bd, .tup [.int 1, .int 1], .tup [.int 1, .int 1], .tup [.int (-1), .int 1]],
  .tup [.int bd, .tup [.int 2, .int 4], hfv, zov], .tup [.int bd, .int 1, .int 0, .int 0], .tup [.int bd, hfv, zov, .tup [.int 1, .int (-2)]], .tup [.non, hfv, hfv, zov], .tup [.bl true, hfv, hfv, zov], .tup [.int 100, hfv, hfv, zov], .tup [.int bd, .lst [.int 1, .int 2], hfv, zov]]
theorem odd_bad (ns : List Int) (a b : Int) {bd : Int} (hb : bd = 0 ∨ bd = 5 ∨ bd = 6 ∨ bd = 20 ∨ bd = 60) : ∀ w ∈ odds bd, c_is_chance_row [w] (Hi ns a b) = .ok (.bl false) (Hi ns a b) := by
  intro w hw
  unfold odds at hw
  simp only [List.mem_cons, List.not_mem_nil, or_false] at hw
  rcases hb with rfl | rfl | rfl | rfl | rfl <;> rcases hw with rfl | rfl | rfl | rfl | rfl | rfl | rfl | rfl | rfl | rfl | rfl | rfl <;> kernel_rfl
theorem none_bad (ns : List Int) (a b : Int) {v : Val} (hv : v = .non ∨ v = .int 5 ∨ v = .lst [] ∨ v = .tup [] ∨ v = .str "ab" ∨ v = .dic false [] [] ∨ ∃ x0 x1 x2 x3 x4 x5 x6, v = .lst [x0, x1, x2, x3, x4, x5, x6]) : c_Chances___init__ [.ref 2, v] (Hi ns a b) = .exc 2 .non (Hi ns a b) := by
  rcases hv with rfl | rfl | rfl | rfl | rfl | rfl | ⟨x0, x1, x2, x3, x4, x5, x6, rfl⟩ <;> kernel_rfl
def asks : List Val := [.non, .int (-1), .int 100, .bl true, .str "5"]
def rep : Val → Val
  | .non => .str "None"
  | .int i => .str (toString i)
  | .bl b => .str (if b = true then "True" else "False")
  | .str x => .str (PySem.reprText x)
  | _ => .non
theorem asked1 (ns : List Int) (a b : Int) (rs : List Val) : ∀ w ∈ asks, c__law_asked [obj rs, w, .non] (H2 ns a b) = .ok (rep w) (H2 ns a b) := by
  intro w hw
  simp only [asks, List.mem_cons, List.not_mem_nil, or_false] at hw
  rcases hw with rfl | rfl | rfl | rfl | rfl <;> kernel_rfl
theorem asked2 (ns : List Int) (a b : Int) (rs : List Val) : ∀ w ∈ asks, c__law_asked [obj rs, .int 5, w] (H2 ns a b) = .ok (rep w) (H2 ns a b) := by
  intro w hw
  simp only [asks, List.mem_cons, List.not_mem_nil, or_false] at hw
  rcases hw with rfl | rfl | rfl | rfl | rfl <;> kernel_rfl
theorem rep_ok (h : Hea) : ∀ w ∈ asks, gReprB h [w] = some (rep w) ∧ eqB h (rep w) (rep w) = some true := by
  intro w hw
  simp only [asks, List.mem_cons, List.not_mem_nil, or_false] at hw
  rcases hw with rfl | rfl | rfl | rfl | rfl <;> exact ⟨by kernel_rfl, eq_self (p := _) rfl (by kernel_rfl)⟩
end K62
end
/-! ## K62P7 -/
section
set_option maxRecDepth 10000
namespace K62
open PySem L2 Lad
abbrev bss : List Int := [0, 5, 6, 20, 60, 99]
theorem asc6 {r0 r1 r2 r3 r4 r5 : Val} (h0 : IsRow 0 r0) (h1 : IsRow 5 r1) (h2 : IsRow 6 r2) (h3 : IsRow 20 r3) (h4 : IsRow 60 r4) (h5 : IsRow 99 r5) : Asc [r0, r1, r2, r3, r4, r5] bss := by
  refine ⟨rfl, ?_, rfl, ?_, by decide⟩
  · intro i v b e1 e2
    match i with
    | 0 => simp at e1 e2; subst e1 e2; exact ⟨h0, by decide, by decide⟩
    | 1 => simp at e1 e2; subst e1 e2; exact ⟨h1, by decide, by decide⟩
    | 2 => simp at e1 e2; subst e1 e2; exact ⟨h2, by decide, by decide⟩
    | 3 => simp at e1 e2; subst e1 e2; exact ⟨h3, by decide, by decide⟩
    | 4 => simp at e1 e2; subst e1 e2; exact ⟨h4, by decide, by decide⟩
    | 5 => simp at e1 e2; subst e1 e2; exact ⟨h5, by decide, by decide⟩
    | i + 6 => simp at e1
  · intro i b c e1 e2
    match i with
    | 0 => simp at e1 e2; omega
    | 1 => simp at e1 e2; omega
    | 2 => simp at e1 e2; omega
    | 3 => simp at e1 e2; omega
    | 4 => simp at e1 e2; omega
    | i + 5 => simp at e2
theorem asc1 {r0 : Val} (h0 : IsRow 0 r0) : Asc [r0] [0] := by
  refine ⟨rfl, ?_, rfl, ?_, by decide⟩
  · intro i v b e1 e2
    match i with
    | 0 => simp at e1 e2; subst e1 e2; exact ⟨h0, by decide, by decide⟩
    | i + 1 => simp at e1
  · intro i b c e1 e2
    simp at e2
theorem good_ok (ns : List Int) (kk : Int) {a b : Int} (P : PoolOk a b) : ∃ good a' b', Asc good bss ∧ (∃ r0 r, good = r0 :: r ∧ IsRow 0 r0) ∧ PoolOk a' b' ∧
    lComp [7] (iTmp (lDisp (aCons (eC (.int 0)) (aCons (eC (.int 5)) (aCons (eC (.int 6)) (aCons (eC (.int 20)) (aCons (eC (.int 60)) (aCons (eC (.int 99)) aNil)))))))) (gN 7) eYes (eCall c__law_row (aCons (eVar 2) (aCons (eVar 7) aNil))) [some (.ref 0), some (.int kk), some (.ref 1), none, none, none, none, none, none, none, none] (H2 ns a b) = .ok good (H2 ns a' b') := by
  obtain ⟨r0, a0, b0, h0, P0, e0⟩ := row_ok ns [] 0 P
  obtain ⟨r1, a1, b1, h1, P1, e1⟩ := row_ok ns [] 5 P0
  obtain ⟨r2, a2, b2, h2, P2, e2⟩ := row_ok ns [] 6 P1
  obtain ⟨r3, a3, b3, h3, P3, e3⟩ := row_ok ns [] 20 P2
  obtain ⟨r4, a4, b4, h4, P4, e4⟩ := row_ok ns [] 60 P3
  obtain ⟨r5, a5, b5, h5, P5, e5⟩ := row_ok ns [] 99 P4
  refine ⟨[r0, r1, r2, r3, r4, r5], a5, b5, asc6 h0 h1 h2 h3 h4 h5, ⟨r0, _, rfl, h0⟩, P5, ?_⟩
  rw [comp_eq (xs := [.int 0, .int 5, .int 6, .int 20, .int 60, .int 99]) (h1 := H2 ns a b) (by simp) (by simp)]
  simp [compL, wipeE, e0, e1, e2, e3, e4, e5]
theorem undL_rows (n : Nat) : ∀ (rs : List Val), (∀ v ∈ rs, ∃ b, IsRow b v) → undL n rs = true
  | [], _ => rfl
  | v :: vs, w => by
    obtain ⟨b, r⟩ := w v List.mem_cons_self
    unfold undL
    rw [r.und, undL_rows n vs fun u hu => w u (List.mem_cons_of_mem _ hu)]
    rfl
theorem cut_take (xs : List Val) (m : Nat) (hm : m ≤ xs.length) : cutL xs none (some (m : Int)) = xs.take m := by
  unfold cutL
  rw [HT.sIx_nat]
  simp [HT.sIx, Nat.min_eq_left hm]
theorem eq3 (h : Hea) (i : Int) : eqB h (.lst [.int i, .bl true, .bl true]) (.lst [.int i, .bl true, .bl true]) = some true := eq_self rfl rfl
theorem eq3n (h : Hea) : eqB h (.lst [.non, .bl true, .bl true]) (.lst [.non, .bl true, .bl true]) = some true := eq_self rfl rfl
theorem eq0 (h : Hea) : eqB h (.lst []) (.lst []) = some true := eq_self rfl rfl
section
variable {ns : List Int} {a b kk : Int} {good : List Val} (A : Asc good bss)
include A
/-- the rows ahead of m are right, the one at m is not -/
theorem told_m {m : Nat} (hm : m < 5) (w : Val) (hw : c_is_chance_row [w] (Hi ns a b) = .ok (.bl false) (Hi ns a b)) : c__law_told [.lst (good.take m ++ [w, .non])] (H2 ns a b) = .ok (.lst [.int m, .bl true, .bl true]) (H2 ns a b) := by
  have hl : good.length = 6 := A.len
  refine told_exc ns a b _ _ (.inr ⟨_, rfl⟩) (init_exc ns a b A m (fun i hi => ?_) w ?_ ?_ fun self => ⟨_, turnA _ _ _ _ _ hw⟩)
  · rw [List.getElem?_append_left (by simp; omega), List.getElem?_take_of_lt hi]
  · rw [List.getElem?_append_right (by simp; omega)]
    simp [hl]
    rw [show m - min m 6 = 0 by omega]
    rfl
  · simp; omega
theorem told_n {m j : Nat} (hm : m < 5) (hj : j ≤ m) (w : Val) (hw : good[j]? = some w) : c__law_told [.lst (good.take (m + 1) ++ [w])] (H2 ns a b) = .ok (.lst [.int ((m + 1 : Nat) : Int), .bl true, .bl true]) (H2 ns a b) := by
  have hl : good.length = 6 := A.len
  have hb : j < bss.length := by simp; omega
  have hb2 : m < bss.length := by simp; omega
  obtain ⟨r, q0, q1⟩ := A.row j w bss[j] hw (List.getElem?_eq_getElem hb)
  have hm2 : m < good.length := by omega
  obtain ⟨r2, _, _⟩ := A.row m good[m] bss[m] (List.getElem?_eq_getElem hm2) (List.getElem?_eq_getElem hb2)
  have le : bss[j] ≤ bss[m] := by
    have : ∀ m, m < 5 → ∀ j, j ≤ m → bss.getD j 0 ≤ bss.getD m 0 := by decide
    have := this m hm j hj
    simpa [List.getD_eq_getElem?_getD, List.getElem?_eq_getElem hb, List.getElem?_eq_getElem hb2] using this
  refine told_exc ns a b _ _ (.inr ⟨_, rfl⟩) (init_exc ns a b A (m + 1) (fun i hi => ?_) w ?_ ?_ fun self => ⟨_, turnB _ _ _ (ys := good.take (m + 1) ++ [w]) rfl (m + 1) (by omega) r q0 q1 (w0 := good[m]) ?_ r2 le⟩)
  · rw [List.getElem?_append_left (by simp; omega), List.getElem?_take_of_lt hi]
  · rw [List.getElem?_append_right (by simp; omega)]
    simp [hl]
    rw [show m + 1 - min (m + 1) 6 = 0 by omega]
    rfl
  · simp; omega
  · rw [Nat.add_sub_cancel, List.getElem?_append_left (by simp; omega), List.getElem?_take_of_lt (by omega)]
    exact List.getElem?_eq_getElem hm2
end
theorem told_1 (ns : List Int) (a b : Int) : c__law_told [.lst [.tup [.int 1, hfv, hfv, zov]]] (H2 ns a b) = .ok (.lst [.int 0, .bl true, .bl true]) (H2 ns a b) := by kernel_rfl
/-! ### the law's frame -/
abbrev Ef (kk : Int) (good : List Val) (x4 x5 x6 x7 x8 x9 x10 : Option Val) : En := [some (.ref 0), some (.int kk), some (.ref 1), some (.lst good), x4, x5, x6, x7, x8, x9, x10]
def undO (n : Nat) : Option Val → Bool
  | none => true
  | some v => v.und n
section
variable {ns : List Int} {a b kk : Int} {good : List Val} (A : Asc good bss) {x4 x5 x6 x7 x8 x9 x10 : Option Val}
include A
theorem gc4 (v : Val) (h5 : undO 2 x5 = true) (h6 : undO 2 x6 = true) (h7 : undO 2 x7 = true) (h8 : undO 2 x8 = true) (h9 : undO 2 x9 = true) (h10 : undO 2 x10 = true) :
    gcN [4] 2 (Ef kk good (some v) x5 x6 x7 x8 x9 x10) (H2 ns a b) = (Ef kk good none x5 x6 x7 x8 x9 x10, H2 ns a b) := by
  have hu := undL_rows 2 good fun v hv => A.mem hv
  have e : undE 2 (Ef kk good none x5 x6 x7 x8 x9 x10) = true := by
    have k : ∀ (x : Option Val) (r : En), undO 2 x = true → undE 2 r = true → undE 2 (x :: r) = true := by
      intro x r h1 h2
      cases x with
      | none => exact h2
      | some v => simp only [undE, Bool.and_eq_true]; exact ⟨h1, h2⟩
    refine k _ _ rfl (k _ _ rfl (k _ _ rfl (k _ _ ?_ (k _ _ rfl (k _ _ h5 (k _ _ h6 (k _ _ h7 (k _ _ h8 (k _ _ h9 (k _ _ h10 rfl))))))))))
    simpa [undO, Val.und] using hu
  show (match (if undE 2 (Ef kk good none x5 x6 x7 x8 x9 x10) = true then shut 2 2 (H2 ns a b) else none) with | some g => _ | none => _) = _
  rw [if_pos e]
  rfl
theorem gc9 (v : Val) (h4 : undO 2 x4 = true) (h5 : undO 2 x5 = true) (h6 : undO 2 x6 = true) (h7 : undO 2 x7 = true) (h8 : undO 2 x8 = true) (h10 : undO 2 x10 = true) :
    gcN [9] 2 (Ef kk good x4 x5 x6 x7 x8 (some v) x10) (H2 ns a b) = (Ef kk good x4 x5 x6 x7 x8 none x10, H2 ns a b) := by
  have hu := undL_rows 2 good fun v hv => A.mem hv
  have e : undE 2 (Ef kk good x4 x5 x6 x7 x8 none x10) = true := by
    have k : ∀ (x : Option Val) (r : En), undO 2 x = true → undE 2 r = true → undE 2 (x :: r) = true := by
      intro x r h1 h2
      cases x with
      | none => exact h2
      | some v => simp only [undE, Bool.and_eq_true]; exact ⟨h1, h2⟩
    refine k _ _ rfl (k _ _ rfl (k _ _ rfl (k _ _ ?_ (k _ _ h4 (k _ _ h5 (k _ _ h6 (k _ _ h7 (k _ _ h8 (k _ _ rfl (k _ _ h10 rfl))))))))))
    simpa [undO, Val.und] using hu
  show (match (if undE 2 (Ef kk good x4 x5 x6 x7 x8 none x10) = true then shut 2 2 (H2 ns a b) else none) with | some g => _ | none => _) = _
  rw [if_pos e]
  rfl
/-- no list of one to six -/
theorem loop0 (s : List Val) (hs : ∀ v ∈ s, c_Chances___init__ [.ref 2, v] (Hi ns a b) = .exc 2 .non (Hi ns a b)) : forKL (gcN [4] 2) (gN 4) l_law_0 s (Ef kk good none none none none none none none) (H2 ns a b) = .nx (Ef kk good none none none none none none none) (H2 ns a b) := by
  refine forKL_const fun v hv => ⟨Ef kk good (some v) none none none none none none, Ef kk good (some v) none none none none none none, H2 ns a b, rfl, ?_, gc4 A v rfl rfl rfl rfl rfl rfl⟩
  have t := told_exc ns a b v .non (.inl rfl) (hs v hv)
  unfold l_law_0
  exact if_no (bin_ok (call_eq rfl t) rfl (ne_same _ (eq3n _)))
theorem loop1 {m : Nat} (hm : m < 5) {bd : Int} (hb : bd = 0 ∨ bd = 5 ∨ bd = 6 ∨ bd = 20 ∨ bd = 60) : forKL (gcN [4] 2) (gN 4) l_law_1 (odds bd) (Ef kk good none (some (.int m)) (some hfv) (some (.int bd)) (some (.lst (odds bd))) none none) (H2 ns a b) = .nx (Ef kk good none (some (.int m)) (some hfv) (some (.int bd)) (some (.lst (odds bd))) none none) (H2 ns a b) := by
  have hl : good.length = 6 := A.len
  refine forKL_const fun v hv => ⟨Ef kk good (some v) (some (.int m)) (some hfv) (some (.int bd)) (some (.lst (odds bd))) none none, Ef kk good (some v) (some (.int m)) (some hfv) (some (.int bd)) (some (.lst (odds bd))) none none, H2 ns a b, rfl, ?_, gc4 A v rfl rfl rfl rfl rfl rfl⟩
  have t := told_m A (ns := ns) (a := a) (b := b) hm v (odd_bad ns a b hb v hv)
  have ec := cut_take good m (by omega)
  unfold l_law_1
  generalize (m : Int) = mm at *
  have e1 : eBin oAdd (eLst (lCut (eVar 3) none (some (eVar 5)))) (eLst (lDisp (aCons (eVar 4) (aCons (eC .non) aNil)))) (Ef kk good (some v) (some (.int mm)) (some hfv) (some (.int bd)) (some (.lst (odds bd))) none none) (H2 ns a b) = .ok (.lst (good.take m ++ [v, .non])) (H2 ns a b) := by
    refine bin_ok (d := .lst (good.take m)) (h1 := H2 ns a b) ?_ (d2 := .lst [v, .non]) rfl ?_
    · rw [← ec]
      rfl
    · show (if (good.take m).length + 2 ≤ 16777216 then some (Val.lst (good.take m ++ [v, .non])) else none) = _
      rw [if_pos (by simp; omega)]
  refine if_no (bin_ok (call_eq (ds := [.lst (good.take m ++ [v, .non])]) ?_ t) rfl (ne_same _ (eq3 _ _)))
  rw [ap_acons, e1]
  rfl
theorem loop2 {m : Nat} (hm : m < 5) {bd : Int} {bad : List Val} (hbad : undL 2 bad = true) (s : List Val) (hs : ∀ v ∈ s, ∃ j, j ≤ m ∧ good[j]? = some v) : forKL (gcN [9] 2) (gN 9) l_law_2 s (Ef kk good none (some (.int m)) (some hfv) (some (.int bd)) (some (.lst bad)) none none) (H2 ns a b) = .nx (Ef kk good none (some (.int m)) (some hfv) (some (.int bd)) (some (.lst bad)) none none) (H2 ns a b) := by
  have hl : good.length = 6 := A.len
  refine forKL_const fun v hv => ⟨Ef kk good none (some (.int m)) (some hfv) (some (.int bd)) (some (.lst bad)) (some v) none, Ef kk good none (some (.int m)) (some hfv) (some (.int bd)) (some (.lst bad)) (some v) none, H2 ns a b, rfl, ?_, gc9 A v rfl rfl rfl rfl (by simpa [undO, Val.und] using hbad) rfl⟩
  obtain ⟨j, hj, hw⟩ := hs v hv
  have t := told_n A (ns := ns) (a := a) (b := b) hm hj v hw
  have ec := cut_take good (m + 1) (by omega)
  have em : ((m + 1 : Nat) : Int) = (m : Int) + 1 := by omega
  rw [em] at ec t
  unfold l_law_2
  generalize (m : Int) = mm at *
  have e1 : eBin oAdd (eLst (lCut (eVar 3) none (some (eBin oAdd (eVar 5) (eC (.int 1)))))) (eLst (lDisp (aCons (eVar 9) aNil))) (Ef kk good none (some (.int mm)) (some hfv) (some (.int bd)) (some (.lst bad)) (some v) none) (H2 ns a b) = .ok (.lst (good.take (m + 1) ++ [v])) (H2 ns a b) := by
    refine bin_ok (d := .lst (good.take (m + 1))) (h1 := H2 ns a b) ?_ (d2 := .lst [v]) rfl ?_
    · rw [← ec]
      rfl
    · show (if (good.take (m + 1)).length + 1 ≤ 16777216 then some (Val.lst (good.take (m + 1) ++ [v])) else none) = _
      rw [if_pos (by simp; omega)]
  refine if_no (bin_ok (call_eq (ds := [.lst (good.take (m + 1) ++ [v])]) ?_ t) (d2 := .lst [.int (mm + 1), .bl true, .bl true]) rfl (ne_same _ (eq3 _ _)))
  rw [ap_acons, e1]
  rfl
theorem loop3 {x5 x6 x7 x8 : Option Val} (h5 : undO 2 x5 = true) (h6 : undO 2 x6 = true) (h7 : undO 2 x7 = true) (h8 : undO 2 x8 = true) : forKL (gcN [4] 2) (gN 4) l_law_3 asks (Ef kk good none x5 x6 x7 x8 none (some (obj good))) (H2 ns a b) = .nx (Ef kk good none x5 x6 x7 x8 none (some (obj good))) (H2 ns a b) := by
  have hu := undL_rows 2 good fun v hv => A.mem hv
  refine forKL_const fun v hv => ⟨Ef kk good (some v) x5 x6 x7 x8 none (some (obj good)), Ef kk good (some v) x5 x6 x7 x8 none (some (obj good)), H2 ns a b, rfl, ?_, gc4 A v h5 h6 h7 h8 rfl (by simpa [undO, Val.und, undL] using hu)⟩
  obtain ⟨q1, q2⟩ := rep_ok (H2 ns a b) v hv
  have er : ∀ e : En, e[4]? = some (some v) → eCB gReprB (aCons (eVar 4) aNil) e (H2 ns a b) = .ok (rep v) (H2 ns a b) := by
    intro e he
    simp [he, q1]
  unfold l_law_3
  exact if_no (or_no (bin_ok (call_eq rfl (asked1 ns a b good v hv)) (er _ rfl) (ne_same _ q2)) (bin_ok (call_eq rfl (asked2 ns a b good v hv)) (er _ rfl) (ne_same _ q2)))
end
end K62
end
/-! ## K62P8 -/
section
set_option maxRecDepth 10000
namespace K62
open PySem L2 Lad
section
variable {ns : List Int} {a b kk : Int} {good : List Val}
theorem cond0 (A : Asc good bss) (hg : ∃ r0 r, good = r0 :: r ∧ IsRow 0 r0) : eOr (eBin oNe (eCall c__law_told (aCons (eVar 3) aNil)) (eLst (lDisp aNil))) (eBin oNe (eCall c__law_told (aCons (eItL gTuple (lCut (eVar 3) none (some (eC (.int 1))))) aNil)) (eLst (lDisp aNil))) (Ef kk good none none none none none none none) (H2 ns a b) = .ok (.bl false) (H2 ns a b) := by
  obtain ⟨r0, r, rfl, h0⟩ := hg
  refine or_no (bin_ok (call_eq rfl (told_ok ns a b A (.lst (r0 :: r)) (.inl rfl))) rfl (ne_same _ (eq0 _))) (bin_ok (call_eq (ds := [.tup [r0]]) ?_ (told_ok ns a b (asc1 h0) (.tup [r0]) (.inr rfl))) rfl (ne_same _ (eq0 _)))
  have ec := cut_take (r0 :: r) 1 (by simp)
  simp [lCut, eOpt, gTuple]
  simpa using ec
theorem src0 (A : Asc good bss) (P : PoolOk a b) : ∃ (s : List Val) (a' b' : Int), PoolOk a' b' ∧ (∀ v ∈ s, c_Chances___init__ [.ref 2, v] (Hi ns a' b') = .exc 2 .non (Hi ns a' b')) ∧
    iTmp (lDisp (aCons (eC .non) (aCons (eC (.int 5)) (aCons (eLst (lDisp aNil)) (aCons (eTup aNil) (aCons (eC (.str "ab")) (aCons eD0 (aCons (eBin oAdd (eVar 3) (eLst (lDisp (aCons (eCall c__law_row (aCons (eVar 2) (aCons (eC (.int 99)) aNil))) aNil)))) aNil)))))))) (Ef kk good none none none none none none none) (H2 ns a b) = .ok (srcFix s) (H2 ns a' b') := by
  obtain ⟨v, a', b', _, P', e⟩ := row_ok ns [] 99 P
  have hl : good.length = 6 := A.len
  refine ⟨[.non, .int 5, .lst [], .tup [], .str "ab", .dic false [] [], .lst (good ++ [v])], a', b', P', ?_, ?_⟩
  · intro w hw
    refine none_bad ns a' b' ?_
    simp only [List.mem_cons, List.not_mem_nil, or_false] at hw
    rcases hw with h | h | h | h | h | h | h
    · exact .inl h
    · exact .inr (.inl h)
    · exact .inr (.inr (.inl h))
    · exact .inr (.inr (.inr (.inl h)))
    · exact .inr (.inr (.inr (.inr (.inl h))))
    · exact .inr (.inr (.inr (.inr (.inr (.inl h)))))
    · refine .inr (.inr (.inr (.inr (.inr (.inr ?_)))))
      match good, hl with
      | [x0, x1, x2, x3, x4, x5], _ => exact ⟨x0, x1, x2, x3, x4, x5, v, h⟩
  · have e1 : eBin oAdd (eVar 3) (eLst (lDisp (aCons (eCall c__law_row (aCons (eVar 2) (aCons (eC (.int 99)) aNil))) aNil))) (Ef kk good none none none none none none none) (H2 ns a b) = .ok (.lst (good ++ [v])) (H2 ns a' b') := by
      refine bin_ok (d := .lst good) (h1 := H2 ns a b) rfl (d2 := .lst [v]) (h2 := H2 ns a' b') (by simp [e]) ?_
      show (if good.length + 1 ≤ 16777216 then some (Val.lst (good ++ [v])) else none) = _
      rw [if_pos (by omega)]
    have e2 : ∀ (h : Hea), eD0 (Ef kk good none none none none none none none) h = .ok (.dic false [] []) h := fun _ => rfl
    exact tmp_ok (disp_ok (acons_ok rfl (acons_ok rfl (acons_ok rfl (acons_ok rfl (acons_ok rfl (acons_ok (e2 _) (acons_ok e1 rfl))))))) (by simp))
theorem turn_ok (A : Asc good bss) (hg : ∃ r0 r, good = r0 :: r ∧ IsRow 0 r0) {a0 b0 : Int} (q0 : c__law_pool [.ref 0, .int kk] [.fro ns] = .ok (.ref 1) (H2 ns a0 b0)) (P : PoolOk a b)
    (e1 : lComp [7] (iTmp (lDisp (aCons (eC (.int 0)) (aCons (eC (.int 5)) (aCons (eC (.int 6)) (aCons (eC (.int 20)) (aCons (eC (.int 60)) (aCons (eC (.int 99)) aNil)))))))) (gN 7) eYes (eCall c__law_row (aCons (eVar 2) (aCons (eVar 7) aNil))) [some (.ref 0), some (.int kk), some (.ref 1), none, none, none, none, none, none, none, none] (H2 ns a0 b0) = .ok good (H2 ns a b)) :
    ∃ e2 h2, l_law_4 [some (.ref 0), some (.int kk), none, none, none, none, none, none, none, none, none] [.fro ns] = .nx e2 h2 ∧ gcN [1, 2, 3, 4, 5, 6, 7, 8, 9, 10] 1 e2 h2 = ([some (.ref 0), none, none, none, none, none, none, none, none, none, none], [.fro ns]) := by
  obtain ⟨s, a1, b1, P1, hs, es⟩ := src0 (ns := ns) (kk := kk) A P
  obtain ⟨r, a2, b2, hr0, hr1, P2, ed⟩ := Drw.draw_ok ns [] (m := 5) P1 (by decide) (by decide)
  obtain ⟨m, hm5, rfl⟩ : ∃ m : Nat, m < 5 ∧ r = (m : Int) := ⟨r.toNat, by omega, by omega⟩
  have hl : good.length = 6 := A.len
  have hbm : m < bss.length := by simp; omega
  have hgm : m < good.length := by omega
  obtain ⟨rm, _, _⟩ := A.row m good[m] bss[m] (List.getElem?_eq_getElem hgm) (List.getElem?_eq_getElem hbm)
  have hbd : bss[m] = 0 ∨ bss[m] = 5 ∨ bss[m] = 6 ∨ bss[m] = 20 ∨ bss[m] = 60 := by
    match m, hm5 with
    | 0, _ => exact .inl rfl
    | 1, _ => exact .inr (.inl rfl)
    | 2, _ => exact .inr (.inr (.inl rfl))
    | 3, _ => exact .inr (.inr (.inr (.inl rfl)))
    | 4, _ => exact .inr (.inr (.inr (.inr rfl)))
  have ei : oIx (H2 ns a2 b2) (.lst good) (.int (m : Int)) = some good[m] := by
    show L2.atI good (m : Int) = _
    rw [atIN]
    exact List.getElem?_eq_getElem hgm
  have l1 := loop1 (ns := ns) (a := a2) (b := b2) (kk := kk) A hm5 hbd
  have l2 := loop2 (ns := ns) (a := a2) (b := b2) (kk := kk) (bd := bss[m]) (bad := odds bss[m]) A hm5 rfl (good.take (m + 1)) (by
    intro v hv
    obtain ⟨j, hj, e⟩ := List.getElem_of_mem hv
    simp at hj
    refine ⟨j, by omega, ?_⟩
    rw [← e, List.getElem_take]
    exact List.getElem?_eq_getElem (by omega))
  have l3 := loop3 (ns := ns) (a := a2) (b := b2) (kk := kk) A (x5 := some (.int m)) (x6 := some hfv) (x7 := some (.int bss[m])) (x8 := some (.lst (odds bss[m]))) rfl rfl rfl rfl
  have ec := cut_take good (m + 1) (by omega)
  have em : ((m + 1 : Nat) : Int) = (m : Int) + 1 := by omega
  rw [em] at ec
  have mk := mk_ok ns a2 b2 A (.lst good) (.inl rfl)
  generalize bss[m] = bd at *
  refine ⟨Ef kk good none (some (.int m)) (some hfv) (some (.int bd)) (some (.lst (odds bd))) none (some (obj good)), H2 ns a2 b2, ?_, rfl⟩
  generalize (m : Int) = mm at *
  unfold l_law_4
  refine seq_set (d := .ref 1) (h1 := H2 ns a0 b0) (by simp [q0]) ?_
  refine seq_set (d := .lst good) (h1 := H2 ns a b) (by rw [ap_lst]; erw [e1]; rfl) ?_
  refine seq_if_no (cond0 A hg) ?_
  refine seq_nx ((forK_eq es).trans (loop0 A s hs)) ?_
  refine seq_nx (e1 := Ef kk good none (some (.int mm)) (some hfv) none none none none) (h1 := H2 ns a2 b2) (by rw [show c__law_draw = Drw.c__law_draw from rfl]; simp [ed]; rfl) ?_
  refine seq_set (d := .int bd) (h1 := H2 ns a2 b2) (bin_ok (bin_ok (h1 := H2 ns a2 b2) rfl (h2 := H2 ns a2 b2) rfl ei) rfl (rm.ix0 _)) ?_
  refine seq_set (d := .lst ((odds bd).take 5)) (h1 := H2 ns a2 b2) rfl ?_
  refine seq_set (d := .lst ((odds bd).take 9)) (h1 := H2 ns a2 b2) rfl ?_
  refine seq_set (d := .lst (odds bd)) (h1 := H2 ns a2 b2) rfl ?_
  refine seq_nx ((forK_eq (xs := odds bd) (h1 := H2 ns a2 b2) rfl).trans l1) ?_
  refine seq_if_no (h1 := H2 ns a2 b2) (bin_ok (call_eq rfl (told_1 ns a2 b2)) rfl (ne_same _ (eq3 _ 0))) ?_
  refine seq_nx ((forK_eq (xs := good.take (m + 1)) (h1 := H2 ns a2 b2) (by rw [← ec]; rfl)).trans l2) ?_
  refine seq_set (d := obj good) (h1 := H2 ns a2 b2) mk ?_
  exact (forK_eq (xs := asks) (h1 := H2 ns a2 b2) rfl).trans l3
end
theorem round_ok (ns : List Int) (k : Nat) (hk : k < 64) : ∃ e2 h2, l_law_4 [some (.ref 0), some (.int k), none, none, none, none, none, none, none, none, none] [.fro ns] = .nx e2 h2 ∧ gcN [1, 2, 3, 4, 5, 6, 7, 8, 9, 10] 1 e2 h2 = ([some (.ref 0), none, none, none, none, none, none, none, none, none, none], [.fro ns]) := by
  obtain ⟨a0, b0, P0, e0⟩ := Drw.poolB_ok ns k hk
  obtain ⟨good, a, b, A, hg, P, e1⟩ := good_ok ns k P0
  exact turn_ok A hg e0 P e1
theorem plain : Plain := by
  intro ns hl
  refine ⟨[.fro ns], ?_⟩
  have hr : ∃ z : Nat, z ≤ 2 ∧ iRng1V (aCons (eCB gMax2 (aCons (eC (.int 1)) (aCons (eCB gMin2 (aCons (eIt gLen (eVar 0)) (aCons (eC (.int 2)) aNil))) aNil))) aNil) (startE 11 [.ref 0]) [.fro ns] = .ok (srcFix (rangeV 0 z)) [.fro ns] := by
    have e0 : eIt gLen (eVar 0) (startE 11 [.ref 0]) [.fro ns] = .ok (.int ns.length) [.fro ns] := by simp [startE, lstAt]
    by_cases h2 : 2 < ns.length
    · refine ⟨2, by omega, ?_⟩
      have h2' : (2 : Int) < ns.length := by omega
      generalize (ns.length : Int) = m at *
      simp [iRng1V, e0, gMin2, gMax2, h2', -ap_it, rngOk]
    · refine ⟨if ns.length = 2 then 2 else 1, by split <;> omega, ?_⟩
      by_cases h3 : ns.length = 2
      · rw [h3] at e0
        simp [iRng1V, e0, gMin2, gMax2, -ap_it, rngOk, h3]
      · have hm : ns.length = 0 ∨ ns.length = 1 := by omega
        rcases hm with hm | hm
        · rw [hm] at e0
          simp [iRng1V, e0, gMin2, gMax2, -ap_it, rngOk, hm]
        · rw [hm] at e0
          simp [iRng1V, e0, gMin2, gMax2, -ap_it, rngOk, hm]
  obtain ⟨z, hz, er⟩ := hr
  refine (run_rt (fn := fin) rfl (d := .bl true) (h' := [.fro ns]) ?_).trans (fin_same _ _)
  unfold b_law
  refine seq_nx (e1 := [some (.ref 0), none, none, none, none, none, none, none, none, none, none]) (h1 := [.fro ns]) ?_ rfl
  rw [forK_eq er]
  refine forKL_const fun v hv => ?_
  unfold rangeV at hv
  simp only [List.mem_map, List.mem_range] at hv
  obtain ⟨k, hk, rfl⟩ := hv
  rw [Int.zero_add]
  obtain ⟨e2, h2, a1, a2⟩ := round_ok ns k (by omega)
  exact ⟨_, e2, h2, rfl, a1, a2⟩
end K62
end
theorem PySem.Challenge.cw_liftedladders_k62_chances_refused_holds : PySem.Challenge.rw_liftedladders_k62_chances_refused.Holds :=
  K62.holds_of K62.plain
