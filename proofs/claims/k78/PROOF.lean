import PyProof.Rows.All
import Wide.All
import OpenK.AllK
import Wide.FinOn
import HandS.ForMost
import HandS.ForExc
import HandS.Wide
import HandS.Style
import HandS.Flow
import HandS.Deep
import HandS.TupLe
import HandS.TupAny
import HandS.IsInst
import HandS.Star
import HandS.RaiseMore
import HandS.WordsExc
import KE.KExcSuper
import PyProof.ExcBaseAll.LookupError
import HandS.ExcField
import HandS.ExcIs
import KE.KExcIs
import HandS.Iter
import HandS.Zip
import HandS.List
import KE.GoesEnum
import KE.GoesMore
import KE.KCallOwn
import HandS.HeadHook2
import HandS.SlotsOwn
import HandS.Dict
import HandS.Strs
import HandS.MakeKwOnly
import HandS.TryMany
import HandS.Conv
import KE.KDictZip
import HandS.SetBool
import HandS.NoneIn
import HandS.Head0
import HandS.Head1
import HandS.Head2
import HandS.HeadEnd
import PyProof.ReprRoads
import PySem.Challenge.RW_liftedladders_k78_told_refused
set_option Elab.async false
set_option linter.all false
/-! ## LadCore -/
section
set_option maxRecDepth 100000
set_option maxHeartbeats 1000000
/-! Lad: an evaluator of Python over plain data, and its rules over the hand layer. -/
namespace Lad
open PySem L2
/-! ### data -/
/-- lst, dic, obj: a list, a dict, an instance that nothing changes any more; ref: one of the evaluator's heap -/
inductive Val where
  | non | bl (b : Bool) | int (i : Int) | str (s : Str) | tup (xs : List Val) | lst (xs : List Val) | dic (t : Bool) (ks vs : List Val) | obj (c : Nat) (ns : List Nat) (vs : List Val) | ref (i : Nat) | exn (c : Nat) (d : Val)
inductive Ob where
  | lst (xs : List Val) | fro (ns : List Int) | dcK (kvs : List (Val × Val)) | dcT (kvs : List (Val × Val)) | ins (c : Nat) (fs : List (Nat × Val))
abbrev Hea := List Ob
abbrev En := List (Option Val)
inductive Res (α : Type) where
  | ok (a : α) (h : Hea) | exc (c : Nat) (d : Val) (h : Hea) | stuck
def Res.bind {α β : Type} (r : Res α) (k : α → Hea → Res β) : Res β := match r with
  | .ok a h => k a h
  | .exc c d h => .exc c d h
  | .stuck => .stuck
/-- the end of a statement -/
inductive SRes where
  | nx (e : En) (h : Hea) | rt (v : Val) (h : Hea) | bk (e : En) (h : Hea) | ct (e : En) (h : Hea) | exc (c : Nat) (d : Val) (e : En) (h : Hea) | stuck
/-- what the program's top has made: the written part, the classes' addresses, the names of attributes, the field of an exception class -/
structure Sy where
  K : PySem.W.Frag
  ca : Nat → Addr
  nm : Nat → Str
  fld : Nat → Str
  /-- the error that is handled: where it is, its class, its dict -/
  ex : Option (Addr × Nat × Addr)
/-! ### what data stand for -/
/-- what the evaluator's heap holds: by numbers; hidden (being made) -/
structure Own where
  nm : List Addr
  hd : List Addr
def Own.add (ρ : Own) (p : Addr) : Own := ⟨ρ.nm ++ [p], ρ.hd⟩
def Own.hide (ρ : Own) (p : Addr) : Own := ⟨ρ.nm, p :: ρ.hd⟩
def Off (ρ : Own) (a : Addr) : Prop := ∀ i : Nat, ρ.nm[i]? ≠ some a
/-- neither held nor being made -/
def Fz (ρ : Own) (a : Addr) : Prop := Off ρ a ∧ a ∉ ρ.hd
def keyVal : Key → Val
  | .inl i => .int i
  | .inr s => .str s
abbrev kvK : Key → Val := keyVal
abbrev kvT : List Key → Val := fun k => Val.tup (k.map keyVal)
mutual
inductive Rep (S : Sy) (ρ : Own) (H : Hp) : Val → V → Prop where
  | non : Rep S ρ H .non .non
  | bl (b : Bool) : Rep S ρ H (.bl b) (.bl b)
  | int (i : Int) : Rep S ρ H (.int i) (.int i)
  | str (s : Str) : Rep S ρ H (.str s) (.str s)
  | tup {a : Addr} {ds : List Val} {vs : List V} : SqT S.K H a vs → Reps S ρ H ds vs → Rep S ρ H (.tup ds) (.ref a)
  | lst {a : Addr} {ds : List Val} {vs : List V} : Fz ρ a → H a = some (.lst vs) → Reps S ρ H ds vs → Rep S ρ H (.lst ds) (.ref a)
  | dicK {a : Addr} {ds : List Val} {ps : List (Key × V)} {ks : List Val} {vs : List V} : Fz ρ a → H a = some (.dK ps) → ks = ps.map (fun p => kvK p.1) → vs = ps.map (·.2) → Reps S ρ H ds vs → Rep S ρ H (.dic false ks ds) (.ref a)
  | dicT {a : Addr} {ds : List Val} {ps : List (List Key × V)} {ks : List Val} {vs : List V} : Fz ρ a → H a = some (.dT ps) → ks = ps.map (fun p => kvT p.1) → vs = ps.map (·.2) → Reps S ρ H ds vs → Rep S ρ H (.dic true ks ds) (.ref a)
  | obj {a dx : Addr} {c : Nat} {ns : List Nat} {ds : List Val} {ps : List (Str × V)} {vs : List V} : Fz ρ a → H a = some (.ins (S.ca c) dx ps) → ps.map (·.1) = ns.map S.nm → vs = ps.map (·.2) → Reps S ρ H ds vs → Rep S ρ H (.obj c ns ds) (.ref a)
  | ref {i : Nat} {a : Addr} : ρ.nm[i]? = some a → Rep S ρ H (.ref i) (.ref a)
  | exn {c : Nat} {a dx : Addr} {d : Val} {v : V} : S.ex = some (a, c, dx) → H dx = some (.xd [(S.fld c, v)]) → Rep S ρ H d v → Rep S ρ H (.exn c d) (.ref a)
inductive Reps (S : Sy) (ρ : Own) (H : Hp) : List Val → List V → Prop where
  | nil : Reps S ρ H [] []
  | cons {d : Val} {v : V} {ds : List Val} {vs : List V} : Rep S ρ H d v → Reps S ρ H ds vs → Reps S ρ H (d :: ds) (v :: vs)
end
/-- tuples stay -/
def Kp (S : Sy) (H H' : Hp) : Prop := (∀ a xs, SqT S.K H a xs → SqT S.K H' a xs) ∧ ∀ a fs, H a = some (.xd fs) → H' a = some (.xd fs)
theorem Kp.rfl {S : Sy} {H : Hp} : Kp S H H := ⟨fun _ _ h => h, fun _ _ h => h⟩
theorem Kp.trans {S : Sy} {H H1 H2 : Hp} (a : Kp S H H1) (b : Kp S H1 H2) : Kp S H H2 := ⟨fun x xs h => b.1 x xs (a.1 x xs h), fun x xs h => b.2 x xs (a.2 x xs h)⟩
/-- ρ' goes on from ρ -/
def Sub (ρ ρ' : Own) : Prop := ∀ (i : Nat) (a : Addr), ρ.nm[i]? = some a → ρ'.nm[i]? = some a
theorem Sub.rfl {ρ : Own} : Sub ρ ρ := fun _ _ h => h
theorem Sub.trans {ρ ρ1 ρ2 : Own} (a : Sub ρ ρ1) (b : Sub ρ1 ρ2) : Sub ρ ρ2 := fun i x h => b i x (a i x h)
theorem Sub.app {ρ : Own} {p : Addr} : Sub ρ (ρ.add p) := fun i a h => by
  have hi := (List.getElem?_eq_some_iff.mp h).1
  show (ρ.nm ++ [p])[i]? = some a
  rw [List.getElem?_append_left hi]; exact h
/-- what stands for data goes on to do so -/
structure Mv (S : Sy) (ρ : Own) (H : Hp) (ρ' : Own) (H' : Hp) : Prop where
  sub : Sub ρ ρ'
  kp : Kp S H H'
  fz : ∀ a o, H a = some o → Fz ρ a → H' a = some o ∧ Fz ρ' a
theorem Mv.rfl {S : Sy} {ρ : Own} {H : Hp} : Mv S ρ H ρ H := ⟨.rfl, .rfl, fun _ _ e f => ⟨e, f⟩⟩
theorem Mv.trans {S : Sy} {ρ ρ1 ρ2 : Own} {H H1 H2 : Hp} (a : Mv S ρ H ρ1 H1) (b : Mv S ρ1 H1 ρ2 H2) : Mv S ρ H ρ2 H2 := ⟨a.sub.trans b.sub, a.kp.trans b.kp, fun x o e f => b.fz x o (a.fz x o e f).1 (a.fz x o e f).2⟩
theorem Rd.mv {S : Sy} {ρ ρ' : Own} {H H' : Hp} (m : Mv S ρ H ρ' H') {a : Addr} {o : HO} (f : Fz ρ a) (h : Rd H a o) : Rd H' a o := by
  rcases h with h | ⟨u, h⟩
  · exact .inl (m.fz a _ h f).1
  · exact .inr ⟨u, (m.fz a _ h f).1⟩
theorem Rd.there {H : Hp} {a : Addr} {o : HO} (h : Rd H a o) : ∃ u, H a = some u := by
  rcases h with h | ⟨u, h⟩ <;> exact ⟨_, h⟩
mutual
theorem Rep.mono {S : Sy} {ρ ρ' : Own} {H H' : Hp} (m : Mv S ρ H ρ' H') : ∀ {d : Val} {v : V}, Rep S ρ H d v → Rep S ρ' H' d v
  | _, _, .non => .non
  | _, _, .bl b => .bl b
  | _, _, .int i => .int i
  | _, _, .str z => .str z
  | _, _, .tup h r => .tup (m.kp.1 _ _ h) (Reps.mono m r)
  | _, _, .lst f h r => .lst (m.fz _ _ h f).2 (m.fz _ _ h f).1 (Reps.mono m r)
  | _, _, .dicK f h e1 e2 r => .dicK (m.fz _ _ h f).2 (m.fz _ _ h f).1 e1 e2 (Reps.mono m r)
  | _, _, .dicT f h e1 e2 r => .dicT (m.fz _ _ h f).2 (m.fz _ _ h f).1 e1 e2 (Reps.mono m r)
  | _, _, .obj f h e1 e2 r => .obj (m.fz _ _ h f).2 (m.fz _ _ h f).1 e1 e2 (Reps.mono m r)
  | _, _, .ref h => .ref (m.sub _ _ h)
  | _, _, .exn h1 h2 r => .exn h1 (m.kp.2 _ _ h2) (Rep.mono m r)
theorem Reps.mono {S : Sy} {ρ ρ' : Own} {H H' : Hp} (m : Mv S ρ H ρ' H') : ∀ {ds : List Val} {vs : List V}, Reps S ρ H ds vs → Reps S ρ' H' ds vs
  | _, _, .nil => .nil
  | _, _, .cons r t => .cons (Rep.mono m r) (Reps.mono m t)
end
theorem Reps.length {S : Sy} {ρ : Own} {H : Hp} : ∀ {ds : List Val} {vs : List V}, Reps S ρ H ds vs → ds.length = vs.length
  | _, _, .nil => rfl
  | _, _, .cons _ t => congrArg (· + 1) (Reps.length t)
theorem Reps.get {S : Sy} {ρ : Own} {H : Hp} : ∀ {ds : List Val} {vs : List V} {i : Nat} {d : Val}, Reps S ρ H ds vs → ds[i]? = some d → ∃ v, vs[i]? = some v ∧ Rep S ρ H d v
  | _, _, 0, _, .cons r _, e => by
    have e := Option.some.inj e
    subst e
    exact ⟨_, rfl, r⟩
  | _, _, i + 1, _, .cons _ t, e => Reps.get (i := i) t e
  | _, _, i, _, .nil, e => by simp at e
theorem Reps.get' {S : Sy} {ρ : Own} {H : Hp} : ∀ {ds : List Val} {vs : List V} {i : Nat} {v : V}, Reps S ρ H ds vs → vs[i]? = some v → ∃ d, ds[i]? = some d ∧ Rep S ρ H d v
  | _, _, 0, _, .cons r _, e => by
    have e := Option.some.inj e
    subst e
    exact ⟨_, rfl, r⟩
  | _, _, i + 1, _, .cons _ t, e => Reps.get' (i := i) t e
  | _, _, i, _, .nil, e => by simp at e
theorem Reps.app {S : Sy} {ρ : Own} {H : Hp} : ∀ {ds es : List Val} {vs us : List V}, Reps S ρ H ds vs → Reps S ρ H es us → Reps S ρ H (ds ++ es) (vs ++ us)
  | _, _, _, _, .nil, t => t
  | _, _, _, _, .cons r q, t => .cons r (Reps.app q t)
theorem Reps.one {S : Sy} {ρ : Own} {H : Hp} {d : Val} {v : V} (r : Rep S ρ H d v) : Reps S ρ H [d] [v] := .cons r .nil
theorem Reps.take {S : Sy} {ρ : Own} {H : Hp} : ∀ {ds : List Val} {vs : List V} (n : Nat), Reps S ρ H ds vs → Reps S ρ H (ds.take n) (vs.take n)
  | _, _, 0, _ => .nil
  | _, _, _ + 1, .nil => .nil
  | _, _, n + 1, .cons r t => .cons r (Reps.take n t)
theorem Reps.drop {S : Sy} {ρ : Own} {H : Hp} : ∀ {ds : List Val} {vs : List V} (n : Nat), Reps S ρ H ds vs → Reps S ρ H (ds.drop n) (vs.drop n)
  | _, _, 0, r => r
  | _, _, _ + 1, .nil => .nil
  | _, _, n + 1, .cons _ t => Reps.drop n t
theorem Reps.set {S : Sy} {ρ : Own} {H : Hp} {d : Val} {v : V} (r : Rep S ρ H d v) : ∀ {ds : List Val} {vs : List V} (n : Nat), Reps S ρ H ds vs → Reps S ρ H (ds.set n d) (vs.set n v)
  | _, _, _, .nil => .nil
  | _, _, 0, .cons _ t => .cons r t
  | _, _, n + 1, .cons q t => .cons q (Reps.set r n t)
theorem Reps.ints {S : Sy} {ρ : Own} {H : Hp} : ∀ {ns : List Int} {vs : List V}, Reps S ρ H (ns.map Val.int) vs → vs = ns.map V.int
  | [], _, .nil => rfl
  | n :: ns, _, .cons r t => by
    cases r
    rw [Reps.ints t]
    rfl
/-! ### objects -/
inductive KvR (S : Sy) (ρ : Own) (H : Hp) {κ : Type} (kd : κ → Val) : List (Val × Val) → List (κ × V) → Prop where
  | nil : KvR S ρ H kd [] []
  | cons {k : κ} {d : Val} {v : V} {ds : List (Val × Val)} {vs : List (κ × V)} : Rep S ρ H d v → KvR S ρ H kd ds vs → KvR S ρ H kd ((kd k, d) :: ds) ((k, v) :: vs)
theorem KvR.mono {S : Sy} {ρ ρ' : Own} {H H' : Hp} {κ : Type} {kd : κ → Val} (m : Mv S ρ H ρ' H') : ∀ {ds : List (Val × Val)} {vs : List (κ × V)}, KvR S ρ H kd ds vs → KvR S ρ' H' kd ds vs
  | _, _, .nil => .nil
  | _, _, .cons r t => .cons (r.mono m) (t.mono m)
inductive FsR (S : Sy) (ρ : Own) (H : Hp) : List (Nat × Val) → List (Str × V) → Prop where
  | nil : FsR S ρ H [] []
  | cons {n : Nat} {d : Val} {v : V} {ds : List (Nat × Val)} {vs : List (Str × V)} : Rep S ρ H d v → FsR S ρ H ds vs → FsR S ρ H ((n, d) :: ds) ((S.nm n, v) :: vs)
theorem FsR.mono {S : Sy} {ρ ρ' : Own} {H H' : Hp} (m : Mv S ρ H ρ' H') : ∀ {ds : List (Nat × Val)} {vs : List (Str × V)}, FsR S ρ H ds vs → FsR S ρ' H' ds vs
  | _, _, .nil => .nil
  | _, _, .cons r t => .cons (r.mono m) (t.mono m)
theorem reps_ints {S : Sy} {ρ : Own} {H : Hp} : ∀ ns : List Int, Reps S ρ H (ns.map Val.int) (ns.map V.int)
  | [] => .nil
  | n :: ns => .cons (.int n) (reps_ints ns)
inductive ObR (S : Sy) (ρ : Own) (H : Hp) : Ob → Addr → Prop where
  | lst {xs : List Val} {vs : List V} {a : Addr} : H a = some (.lst vs) → Reps S ρ H xs vs → ObR S ρ H (.lst xs) a
  | fro {ns : List Int} {a : Addr} {o : PySem.Obj} : H a = some (.frz o (.lst (ns.map V.int))) → ObR S ρ H (.fro ns) a
  | dcK {kvs : List (Val × Val)} {vs : List (Key × V)} {a : Addr} : H a = some (.dK vs) → KvR S ρ H kvK kvs vs → ObR S ρ H (.dcK kvs) a
  | dcT {kvs : List (Val × Val)} {vs : List (List Key × V)} {a : Addr} : H a = some (.dT vs) → KvR S ρ H kvT kvs vs → ObR S ρ H (.dcT kvs) a
  | ins {c : Nat} {fs : List (Nat × Val)} {vs : List (Str × V)} {a dx : Addr} : H a = some (.ins (S.ca c) dx vs) → FsR S ρ H fs vs → ObR S ρ H (.ins c fs) a
theorem ObR.there {S : Sy} {ρ : Own} {H : Hp} {o : Ob} {a : Addr} (r : ObR S ρ H o a) : ∃ u, H a = some u := by
  cases r <;> exact ⟨_, by assumption⟩
theorem ObR.mono {S : Sy} {ρ ρ' : Own} {H H' : Hp} (m : Mv S ρ H ρ' H') {o : Ob} {a : Addr} (e : H' a = H a) (r : ObR S ρ H o a) : ObR S ρ' H' o a := by
  cases r with
  | lst h q => exact .lst (e.trans h) (q.mono m)
  | fro h => exact .fro (e.trans h)
  | dcK h q => exact .dcK (e.trans h) (q.mono m)
  | dcT h q => exact .dcT (e.trans h) (q.mono m)
  | ins h q => exact .ins (e.trans h) (q.mono m)
/-- the heap is held -/
structure Rel (S : Sy) (ρ : Own) (h : Hea) (H : Hp) : Prop where
  len : h.length = ρ.nm.length
  inj : ∀ (i j : Nat) (a : Addr), ρ.nm[i]? = some a → ρ.nm[j]? = some a → i = j
  ob : ∀ (i : Nat) (o : Ob) (a : Addr), h[i]? = some o → ρ.nm[i]? = some a → ObR S ρ H o a
  hid : ∀ a, a ∈ ρ.hd → (∃ u, H a = some u) ∧ Off ρ a
theorem upd_some {H : Hp} {p a : Addr} {o u : HO} (e : H a = some u) : ∃ u, upd H p o a = some u := by
  unfold upd
  split
  · exact ⟨_, rfl⟩
  · exact ⟨_, e⟩
theorem Rel.at {S : Sy} {ρ : Own} {h : Hea} {H : Hp} (r : Rel S ρ h H) {i : Nat} {o : Ob} (e : h[i]? = some o) : ∃ a, ρ.nm[i]? = some a ∧ ObR S ρ H o a := by
  have hi := (List.getElem?_eq_some_iff.mp e).1
  rw [r.len] at hi
  exact ⟨_, List.getElem?_eq_getElem hi, r.ob i o _ e (List.getElem?_eq_getElem hi)⟩
theorem Kp.new {S : Sy} {H : Hp} {p : Addr} {o : HO} (n : H p = none) : Kp S H (upd H p o) := by
  refine ⟨fun a xs h => ?_, fun a fs h => by rw [upd_ne (ne_of_none h n)]; exact h⟩
  rcases h with (h | ⟨u, h⟩) | h
  · exact .inl (.inl (by rw [upd_ne (ne_of_none h n)]; exact h))
  · exact .inl (.inr ⟨u, by rw [upd_ne (ne_of_none h n)]; exact h⟩)
  · exact .inr h
/-- what may be changed: no tuple, nothing locked, no error's dict -/
def Ch : HO → Prop
  | .tup _ => False
  | .frz _ _ => False
  | .xd _ => False
  | _ => True
theorem Kp.put {S : Sy} {H : Hp} {p : Addr} {o u : HO} (e : H p = some u) (h1 : Ch u) : Kp S H (upd H p o) := by
  refine ⟨fun a xs h => ?_, fun a fs h => by rw [upd_ne (ne_of h e (by rintro rfl; exact h1))]; exact h⟩
  rcases h with (h | ⟨w, h⟩) | h
  · exact .inl (.inl (by rw [upd_ne (ne_of h e (by rintro rfl; exact h1))]; exact h))
  · exact .inl (.inr ⟨w, by rw [upd_ne (ne_of h e (by rintro rfl; exact h1))]; exact h⟩)
  · exact .inr h
theorem add_some {ρ : Own} {p a : Addr} {i : Nat} (h : (ρ.add p).nm[i]? = some a) : ρ.nm[i]? = some a ∨ a = p := by
  have h : (ρ.nm ++ [p])[i]? = some a := h
  by_cases hi : i < ρ.nm.length
  · rw [List.getElem?_append_left hi] at h
    exact .inl h
  · rw [List.getElem?_append_right (Nat.le_of_not_lt hi)] at h
    have := List.mem_of_getElem? h
    simp at this
    exact .inr this
theorem Fz.add {ρ : Own} {p a : Addr} (f : Fz ρ a) (n : a ≠ p) : Fz (ρ.add p) a := ⟨fun i z => by
  rcases add_some z with z | z
  · exact f.1 i z
  · exact n z, f.2⟩
theorem Mv.side {S : Sy} {ρ : Own} {H : Hp} {p : Addr} {o : HO} (n : H p = none) : Mv S ρ H ρ (upd H p o) := ⟨.rfl, .new n, fun a u e f => ⟨by rw [upd_ne (ne_of_none e n)]; exact e, f⟩⟩
theorem Mv.new {S : Sy} {ρ : Own} {H : Hp} {p : Addr} {o : HO} (n : H p = none) : Mv S ρ H (ρ.add p) (upd H p o) := ⟨.app, .new n, fun a u e f => ⟨by rw [upd_ne (ne_of_none e n)]; exact e, f.add (ne_of_none e n)⟩⟩
theorem Mv.put {S : Sy} {ρ : Own} {H : Hp} {i : Nat} {a : Addr} {u o : HO} (ea : ρ.nm[i]? = some a) (e : H a = some u) (h1 : Ch u) : Mv S ρ H ρ (upd H a o) := ⟨.rfl, .put e h1, fun b w q f => ⟨by
  have hb : b ≠ a := fun z => f.1 i (by rw [z]; exact ea)
  rw [upd_ne hb]; exact q, f⟩⟩
/-- a thing that is being made is changed -/
theorem Mv.hid {S : Sy} {ρ : Own} {H : Hp} {a : Addr} {u o : HO} (ea : a ∈ ρ.hd) (e : H a = some u) (h1 : Ch u) : Mv S ρ H ρ (upd H a o) := ⟨.rfl, .put e h1, fun b w q f => ⟨by
  have hb : b ≠ a := fun z => f.2 (by rw [z]; exact ea)
  rw [upd_ne hb]; exact q, f⟩⟩
theorem Rel.free {S : Sy} {ρ : Own} {h : Hea} {H : Hp} (r : Rel S ρ h H) {p : Addr} (n : H p = none) {i : Nat} (e : ρ.nm[i]? = some p) : False := by
  have hi := (List.getElem?_eq_some_iff.mp e).1
  rw [← r.len] at hi
  obtain ⟨u, q⟩ := (r.ob i _ p (List.getElem?_eq_getElem hi) e).there
  rw [n] at q; cases q
/-- a new thing that is not in the heap of the evaluator -/
theorem Rel.side {S : Sy} {ρ : Own} {h : Hea} {H : Hp} (r : Rel S ρ h H) {p : Addr} {o : HO} (n : H p = none) : Rel S ρ h (upd H p o) :=
  ⟨r.len, r.inj, fun i ob a e1 e2 => (r.ob i ob a e1 e2).mono (.side n) (upd_ne fun z => r.free n (z ▸ e2)), fun a m => let ⟨⟨_, e⟩, z⟩ := r.hid a m; ⟨upd_some e, z⟩⟩
theorem Rel.fz {S : Sy} {ρ : Own} {h : Hea} {H : Hp} (r : Rel S ρ h H) {p : Addr} (n : H p = none) : Fz ρ p := ⟨fun _ z => r.free n z, fun m => by
  obtain ⟨⟨u, e⟩, _⟩ := r.hid p m
  rw [n] at e; cases e⟩
theorem add_at {ρ : Own} {p : Addr} : (ρ.add p).nm[ρ.nm.length]? = some p := by show (ρ.nm ++ [p])[ρ.nm.length]? = some p; simp
theorem Rel.grow {S : Sy} {ρ : Own} {h : Hea} {H' : Hp} (hl : h.length = ρ.nm.length) (inj : ∀ (i j : Nat) (a : Addr), ρ.nm[i]? = some a → ρ.nm[j]? = some a → i = j) {p : Addr} {ob : Ob} (n : Off ρ p)
    (os : ∀ (i : Nat) (o : Ob) (a : Addr), h[i]? = some o → ρ.nm[i]? = some a → ObR S (ρ.add p) H' o a) (q : ObR S (ρ.add p) H' ob p) (hi : ∀ a, a ∈ ρ.hd → (∃ u, H' a = some u) ∧ Off ρ a) (hp : p ∉ ρ.hd) : Rel S (ρ.add p) (h ++ [ob]) H' := by
  have one : ∀ (i : Nat) (a : Addr), (ρ.add p).nm[i]? = some a → (i < ρ.nm.length ∧ ρ.nm[i]? = some a) ∨ (i = ρ.nm.length ∧ a = p) := by
    intro i a e
    have e : (ρ.nm ++ [p])[i]? = some a := e
    by_cases h1 : i < ρ.nm.length
    · rw [List.getElem?_append_left h1] at e
      exact .inl ⟨h1, e⟩
    · rw [List.getElem?_append_right (Nat.le_of_not_lt h1)] at e
      have e3 := (List.getElem?_eq_some_iff.mp e).1
      have e4 := (List.mem_of_getElem? e)
      simp at e3 e4
      exact .inr ⟨by omega, e4⟩
  refine ⟨by simp [hl, Own.add], fun i j a e1 e2 => ?_, fun i o' a e1 e2 => ?_, fun a m => ⟨(hi a m).1, (Fz.add (ρ := ⟨ρ.nm, []⟩) (p := p) ⟨(hi a m).2, by simp⟩ fun z => hp (z ▸ m)).1⟩⟩
  · rcases one i a e1 with ⟨_, w1⟩ | ⟨z1, w1⟩
    · rcases one j a e2 with ⟨_, w2⟩ | ⟨z2, w2⟩
      · exact inj i j a w1 w2
      · exact (n i (w2 ▸ w1)).elim
    · rcases one j a e2 with ⟨_, w2⟩ | ⟨z2, w2⟩
      · exact (n j (w1 ▸ w2)).elim
      · omega
  · rcases one i a e2 with ⟨z, w2⟩ | ⟨z, w2⟩
    · rw [List.getElem?_append_left (by omega)] at e1
      exact os i o' a e1 w2
    · subst z w2
      rw [List.getElem?_append_right (by omega)] at e1
      have e4 := (List.mem_of_getElem? e1)
      simp at e4
      subst e4
      exact q
/-- a new object -/
theorem Rel.new {S : Sy} {ρ : Own} {h : Hea} {H : Hp} (r : Rel S ρ h H) {p : Addr} {o : HO} {ob : Ob} (n : H p = none) (q : ObR S (ρ.add p) (upd H p o) ob p) : Rel S (ρ.add p) (h ++ [ob]) (upd H p o) :=
  Rel.grow r.len r.inj (fun i z => r.free n z) (fun i o' a e1 e2 => (r.ob i o' a e1 e2).mono (.new n) (upd_ne fun z => r.free n (z ▸ e2))) q (fun a m => let ⟨⟨_, e⟩, z⟩ := r.hid a m; ⟨upd_some e, z⟩) (r.fz n).2
/-- an object changed -/
theorem Rel.put {S : Sy} {ρ : Own} {h : Hea} {H : Hp} (r : Rel S ρ h H) {i : Nat} {a : Addr} {u o : HO} {ob : Ob} (e : ρ.nm[i]? = some a) (hu : H a = some u) (h1 : Ch u)
    (q : ObR S ρ (upd H a o) ob a) : Rel S ρ (h.set i ob) (upd H a o) := by
  refine ⟨by simp [r.len], r.inj, fun j o' b e1 e2 => ?_, fun a m => let ⟨⟨_, e⟩, z⟩ := r.hid a m; ⟨upd_some e, z⟩⟩
  by_cases hj : i = j
  · subst hj
    have hi := (List.getElem?_eq_some_iff.mp e).1
    rw [← r.len] at hi
    rw [List.getElem?_set_self hi] at e1
    cases e1
    rw [e] at e2; cases e2
    exact q
  · rw [List.getElem?_set_ne hj] at e1
    have nb : b ≠ a := fun z => hj (r.inj i j a e (z ▸ e2))
    exact (r.ob j o' b e1 e2).mono (.put e hu h1) (upd_ne nb)
/-! ### the values of names -/
inductive ER (S : Sy) (ρ : Own) (H : Hp) : En → St → Prop where
  | nil : ER S ρ H [] []
  | cons {d : Option Val} {v : Option V} {ds : En} {vs : St} : (∀ x, d = some x → ∃ y, v = some y ∧ Rep S ρ H x y) → ER S ρ H ds vs → ER S ρ H (d :: ds) (v :: vs)
theorem ER.mono {S : Sy} {ρ ρ' : Own} {H H' : Hp} (m : Mv S ρ H ρ' H') : ∀ {ds : En} {vs : St}, ER S ρ H ds vs → ER S ρ' H' ds vs
  | _, _, .nil => .nil
  | _, _, .cons r t => .cons (fun x e => let ⟨y, e1, q⟩ := r x e; ⟨y, e1, q.mono m⟩) (t.mono m)
theorem ER.get {S : Sy} {ρ : Own} {H : Hp} : ∀ {ds : En} {vs : St} {i : Nat} {d : Val}, ER S ρ H ds vs → ds[i]? = some (some d) → ∃ v, vs[i]? = some (some v) ∧ Rep S ρ H d v
  | _, _, 0, _, .cons r _, e => by
    have e := Option.some.inj e
    obtain ⟨y, e1, q⟩ := r _ e
    subst e1
    exact ⟨_, rfl, q⟩
  | _, _, i + 1, _, .cons _ t, e => ER.get (i := i) t e
  | _, _, i, _, .nil, e => by simp at e
theorem ER.set {S : Sy} {ρ : Own} {H : Hp} {d : Val} {v : V} (r : Rep S ρ H d v) : ∀ {ds : En} {vs : St} (i : Nat), ER S ρ H ds vs → ER S ρ H (ds.set i (some d)) (vs.set i (some v))
  | _, _, _, .nil => .nil
  | _, _, 0, .cons _ t => .cons (fun x e => ⟨_, rfl, by cases e; exact r⟩) t
  | _, _, i + 1, .cons q t => .cons q (ER.set r i t)
theorem ER.gone {S : Sy} {ρ : Own} {H : Hp} {v : Option V} : ∀ {ds : En} {vs : St} (i : Nat), ER S ρ H ds vs → ER S ρ H (ds.set i none) (vs.set i v)
  | _, _, _, .nil => .nil
  | _, _, 0, .cons _ t => .cons (fun x e => nomatch e) t
  | _, _, i + 1, .cons q t => .cons q (ER.gone i t)
/-- forgetting on the evaluator's side alone -/
theorem ER.weak {S : Sy} {ρ : Own} {H : Hp} : ∀ {ds : En} {vs : St} (i : Nat), ER S ρ H ds vs → ER S ρ H (ds.set i none) vs
  | _, _, _, .nil => .nil
  | _, _, 0, .cons _ t => .cons (fun x e => nomatch e) t
  | _, _, i + 1, .cons q t => .cons q (ER.weak i t)
/-! ### going on -/
/-- from one place to a later one: what was named stays named, tuples stay, what the evaluator does not hold stays, what is newly held was not there -/
structure Go (S : Sy) (ρ : Own) (H : Hp) (ρ' : Own) (H' : Hp) : Prop where
  sub : Sub ρ ρ'
  kp : Kp S H H'
  fr : ∀ a o, H a = some o → Off ρ a → H' a = some o
  nw : ∀ (i : Nat) (a : Addr), ρ'.nm[i]? = some a → (∃ j : Nat, ρ.nm[j]? = some a) ∨ H a = none
  hd : ρ'.hd = ρ.hd
theorem Go.rfl {S : Sy} {ρ : Own} {H : Hp} : Go S ρ H ρ H := ⟨.rfl, .rfl, fun _ _ h _ => h, fun i _ h => .inl ⟨i, h⟩, Eq.refl _⟩
theorem Go.trans {S : Sy} {ρ ρ1 ρ2 : Own} {H H1 H2 : Hp} (a : Go S ρ H ρ1 H1) (b : Go S ρ1 H1 ρ2 H2) : Go S ρ H ρ2 H2 := by
  refine ⟨a.sub.trans b.sub, a.kp.trans b.kp, fun x o e n => b.fr x o (a.fr x o e n) fun i q => ?_, fun i x q => ?_, b.hd.trans a.hd⟩
  · rcases a.nw i x q with ⟨j, z⟩ | z
    · exact n j z
    · rw [z] at e; cases e
  · rcases b.nw i x q with ⟨j, z⟩ | z
    · exact a.nw j x z
    · cases e : H x with
      | none => exact .inr (Eq.refl _)
      | some o =>
        refine .inl (Classical.byContradiction fun n => ?_)
        have := a.fr x o e fun j w => n ⟨j, w⟩
        rw [z] at this; cases this
/-- a new thing at p, not held -/
theorem Go.side {S : Sy} {ρ : Own} {H : Hp} {p : Addr} {o : HO} (n : H p = none) : Go S ρ H ρ (upd H p o) :=
  ⟨.rfl, .new n, fun a u e _ => by rw [upd_ne (ne_of_none e n)]; exact e, fun i _ h => .inl ⟨i, h⟩, Eq.refl _⟩
/-- a new thing at p, held -/
theorem Go.new {S : Sy} {ρ : Own} {H : Hp} {p : Addr} {o : HO} (n : H p = none) : Go S ρ H (ρ.add p) (upd H p o) := by
  refine ⟨.app, .new n, fun a u e _ => by rw [upd_ne (ne_of_none e n)]; exact e, fun i a h => ?_, Eq.refl _⟩
  rcases add_some h with h | h
  · exact .inl ⟨i, h⟩
  · subst h
    exact .inr n
/-- a thing that is held is changed -/
theorem Go.put {S : Sy} {ρ : Own} {H : Hp} {i : Nat} {a : Addr} {u o : HO} (ea : ρ.nm[i]? = some a) (e : H a = some u) (h1 : Ch u) : Go S ρ H ρ (upd H a o) :=
  ⟨.rfl, .put e h1, fun b w q n => by
    have hb : b ≠ a := fun z => n i (by rw [z]; exact ea)
    rw [upd_ne hb]; exact q, fun i _ h => .inl ⟨i, h⟩, Eq.refl _⟩
theorem Go.mv {S : Sy} {ρ ρ' : Own} {H H' : Hp} (g : Go S ρ H ρ' H') : Mv S ρ H ρ' H' := ⟨g.sub, g.kp, fun a o e f => ⟨g.fr a o e f.1, (fun i z => by
  rcases g.nw i a z with ⟨j, q⟩ | q
  · exact f.1 j q
  · rw [q] at e; cases e), by rw [g.hd]; exact f.2⟩⟩
/-! ### what is wanted behind -/
section
variable (S : Sy)
def Aft (ρ : Own) (H : Hp) (r : Res Val) (Q : VK) (W : XK) : Prop := match r with
  | .ok d h' => ∀ ρ' v H', Go S ρ H ρ' H' → Rel S ρ' h' H' → Rep S ρ' H' d v → Q v H'
  | .exc c d h' => ∀ ρ' v H' dx, Go S ρ H ρ' H' → Rel S ρ' h' H' → Rep S ρ' H' d v → H' dx = some (.xd [(S.fld c, v)]) → W (.ref (S.ca c)) (some dx) H'
  | .stuck => False
def AftS (ρ : Own) (H : Hp) (r : SRes) (D : Ends) (W : WX) : Prop := match r with
  | .nx e h' => ∀ ρ' σ' H', Go S ρ H ρ' H' → Rel S ρ' h' H' → ER S ρ' H' e σ' → D.nx σ' H'
  | .rt d h' => ∀ ρ' v H', Go S ρ H ρ' H' → Rel S ρ' h' H' → Rep S ρ' H' d v → D.rt v H'
  | .bk e h' => ∀ ρ' σ' H', Go S ρ H ρ' H' → Rel S ρ' h' H' → ER S ρ' H' e σ' → D.bk σ' H'
  | .ct e h' => ∀ ρ' σ' H', Go S ρ H ρ' H' → Rel S ρ' h' H' → ER S ρ' H' e σ' → D.ct σ' H'
  | .exc c d e h' => ∀ ρ' v σ' H' dx, Go S ρ H ρ' H' → Rel S ρ' h' H' → Rep S ρ' H' d v → ER S ρ' H' e σ' → H' dx = some (.xd [(S.fld c, v)]) → W (.ref (S.ca c)) (some dx) σ' H'
  | .stuck => False
def tE (W : WX) (f : En → Hea → Res Val) : TE := fun σ H Q => ∃ ρ e h, Rel S ρ h H ∧ ER S ρ H e σ ∧ Aft S ρ H (f e h) Q (fun c d H' => W c d σ H')
def tS (W : WX) (f : En → Hea → SRes) : TS := fun D σ H => ∃ ρ e h, Rel S ρ h H ∧ ER S ρ H e σ ∧ AftS S ρ H (f e h) D W
end
section
variable {S : Sy}
theorem Aft.later {ρ ρ1 : Own} {H H1 : Hp} {r : Res Val} {Q : VK} {W : XK} (a : Aft S ρ H r Q W) (s : Go S ρ H ρ1 H1) : Aft S ρ1 H1 r Q W := by
  cases r with
  | ok d h' => exact fun ρ2 v H2 s2 => a ρ2 v H2 (s.trans s2)
  | exc c d h' => exact fun ρ2 v H2 dx s2 => a ρ2 v H2 dx (s.trans s2)
  | stuck => exact a
theorem Aft.bind {ρ : Own} {H : Hp} {r : Res Val} {k : Val → Hea → Res Val} {Q : VK} {W : XK} (a : Aft S ρ H (r.bind k) Q W) :
    Aft S ρ H r (fun v H1 => ∃ ρ1 d h1, Go S ρ H ρ1 H1 ∧ Rel S ρ1 h1 H1 ∧ Rep S ρ1 H1 d v ∧ Aft S ρ1 H1 (k d h1) Q W) W := by
  cases r with
  | ok d h => exact fun ρ1 v H1 s R r => ⟨ρ1, d, h, s, R, r, Aft.later (r := k d h) a s⟩
  | exc c d h => exact a
  | stuck => exact a
theorem Aft.mono {ρ : Own} {H : Hp} {r : Res Val} {Q Q' : VK} {W : XK} (a : Aft S ρ H r Q W) (h : ∀ v H', Q v H' → Q' v H') : Aft S ρ H r Q' W := by
  cases r with
  | ok d h' => exact fun ρ1 v H1 s R r => h _ _ (a ρ1 v H1 s R r)
  | exc c d h' => exact a
  | stuck => exact a
theorem AftS.later {ρ ρ1 : Own} {H H1 : Hp} {r : SRes} {D : Ends} {W : WX} (a : AftS S ρ H r D W) (s : Go S ρ H ρ1 H1) : AftS S ρ1 H1 r D W := by
  cases r with
  | nx e h' => exact fun ρ2 σ H2 s2 => a ρ2 σ H2 (s.trans s2)
  | rt d h' => exact fun ρ2 σ H2 s2 => a ρ2 σ H2 (s.trans s2)
  | bk e h' => exact fun ρ2 σ H2 s2 => a ρ2 σ H2 (s.trans s2)
  | ct e h' => exact fun ρ2 σ H2 s2 => a ρ2 σ H2 (s.trans s2)
  | exc c d e h' => exact fun ρ2 v σ H2 dx s2 => a ρ2 v σ H2 dx (s.trans s2)
  | stuck => exact a
theorem Rep.go {ρ ρ' : Own} {H H' : Hp} {d : Val} {v : V} (r : Rep S ρ H d v) (g : Go S ρ H ρ' H') : Rep S ρ' H' d v := r.mono g.mv
theorem Reps.go {ρ ρ' : Own} {H H' : Hp} {d : List Val} {v : List V} (r : Reps S ρ H d v) (g : Go S ρ H ρ' H') : Reps S ρ' H' d v := r.mono g.mv
theorem ER.go {ρ ρ' : Own} {H H' : Hp} {d : En} {v : St} (r : ER S ρ H d v) (g : Go S ρ H ρ' H') : ER S ρ' H' d v := r.mono g.mv
end
theorem _root_.L2.PE.imp {X : Cx} {e : Expr} {t t' : TE} (p : PE X e t) (h : ∀ σ H Q, t' σ H Q → t σ H Q) : PE X e t' := ⟨fun pins s σ H Q I q => p.run pins s σ H Q I (h σ H Q q)⟩
theorem _root_.L2.PT.imp {X : Cx} {e : Expr} {t t' : TT} (p : PT X e t) (h : ∀ σ H Q, t' σ H Q → t σ H Q) : PT X e t' := ⟨fun pins s σ H Q I q => p.run pins s σ H Q I (h σ H Q q)⟩
theorem _root_.L2.PA.imp {X : Cx} {e : List Expr} {t t' : TA} (p : PA X e t) (h : ∀ σ H Q, t' σ H Q → t σ H Q) : PA X e t' := ⟨fun pos pins s σ H Q I q => p.run pos pins s σ H Q I (h σ H Q q)⟩
theorem _root_.L2.PS.imp {X : Cx} {e : Stmt} {t t' : TS} (p : PS X e t) (h : ∀ D σ H, t' D σ H → t D σ H) : PS X e t' := ⟨fun pins s σ H D I q => p.run pins s σ H D I (h D σ H q)⟩
theorem _root_.L2.PSs.imp {X : Cx} {e : List Stmt} {t t' : TS} (p : PSs X e t) (h : ∀ D σ H, t' D σ H → t D σ H) : PSs X e t' := ⟨fun pins s σ H D I q => p.run pins s σ H D I (h D σ H q)⟩
end Lad
end
/-! ## LadOps -/
section
set_option maxRecDepth 100000
set_option maxHeartbeats 1000000
namespace Lad
open PySem L2
/-! ### the tables that the evaluator's side of a program has -/
structure Tb where
  ca : Nat → Addr
  nm : Nat → Str
  fld : Nat → Str
  ex : Option (Addr × Nat × Addr)
abbrev sy (T : Tb) (X : Cx) : Sy := ⟨X.K, T.ca, T.nm, T.fld, T.ex⟩
/-! ### inversions -/
section
variable {S : Sy} {ρ : Own} {H : Hp}
theorem Rep.non_ {v : V} (r : Rep S ρ H .non v) : v = .non := by cases r; rfl
theorem Rep.bl_ {b : Bool} {v : V} (r : Rep S ρ H (.bl b) v) : v = .bl b := by cases r; rfl
theorem Rep.int_ {b : Int} {v : V} (r : Rep S ρ H (.int b) v) : v = .int b := by cases r; rfl
theorem Rep.str_ {b : Str} {v : V} (r : Rep S ρ H (.str b) v) : v = .str b := by cases r; rfl
theorem Rep.tup_ {ds : List Val} {v : V} (r : Rep S ρ H (.tup ds) v) : ∃ a vs, v = .ref a ∧ SqT S.K H a vs ∧ Reps S ρ H ds vs := by cases r; exact ⟨_, _, rfl, by assumption, by assumption⟩
theorem Rep.ref_ {i : Nat} {v : V} (r : Rep S ρ H (.ref i) v) : ∃ a, v = .ref a ∧ ρ.nm[i]? = some a := by cases r; exact ⟨_, rfl, by assumption⟩
/-- a list of the heap, to be read -/
def lstAt (h : Hea) (i : Nat) : Option (List Val) := match h[i]? with
  | some (.lst xs) => some xs
  | some (.fro ns) => some (ns.map Val.int)
  | _ => none
theorem Rel.lst {h : Hea} (R : Rel S ρ h H) {i : Nat} {xs : List Val} (e : lstAt h i = some xs) {a : Addr} (ea : ρ.nm[i]? = some a) : ∃ vs, SqL S.K H a vs ∧ Reps S ρ H xs vs := by
  unfold lstAt at e
  split at e
  · rename_i ys hy
    cases e
    have o := R.ob i _ a hy ea
    cases o with
    | lst h1 h2 => exact ⟨_, .inl (.inl h1), h2⟩
  · rename_i ys hy
    cases e
    have o := R.ob i _ a hy ea
    cases o with
    | fro h1 => exact ⟨_, .inl (.inr ⟨_, h1⟩), reps_ints _⟩
  · cases e
end
def opt (o : Option Val) (h : Hea) : Res Val := match o with
  | some d => .ok d h
  | none => .stuck
section
variable {S : Sy} {ρ : Own} {H : Hp} {h : Hea} {Q : VK} {W : XK}
theorem Aft.same {d : Val} {v : V} (a : Aft S ρ H (.ok d h) Q W) (R : Rel S ρ h H) (r : Rep S ρ H d v) : Q v H := a ρ v H .rfl R r
theorem Aft.tup {ds : List Val} {vs : List V} (a : Aft S ρ H (.ok (.tup ds) h) Q W) (R : Rel S ρ h H) (r : Reps S ρ H ds vs) (p : Addr) (n : H p = none) : Q (.ref p) (upd H p (.tup vs)) :=
  a ρ (.ref p) _ (.side n) (R.side n) (.tup (.inl (.inl upd_same)) (r.mono (.side n)))
theorem Aft.new {ds : List Val} {vs : List V} (a : Aft S ρ H (.ok (.ref h.length) (h ++ [.lst ds])) Q W) (R : Rel S ρ h H) (r : Reps S ρ H ds vs) (p : Addr) (n : H p = none) : Q (.ref p) (upd H p (.lst vs)) :=
  a (ρ.add p) (.ref p) _ (.new n) (R.new n (.lst upd_same (r.mono (.new n)))) (.ref (by rw [R.len]; exact add_at))
end
section
variable {S : Sy} {ρ : Own} {H : Hp} {h : Hea} {Q : VK} {W : XK}
/-- a list that nothing changes any more -/
theorem Aft.flst {ds : List Val} {vs : List V} (a : Aft S ρ H (.ok (.lst ds) h) Q W) (R : Rel S ρ h H) (r : Reps S ρ H ds vs) (p : Addr) (n : H p = none) : Q (.ref p) (upd H p (.lst vs)) :=
  a ρ (.ref p) _ (.side n) (R.side n) (.lst (R.fz n) upd_same (r.mono (.side n)))
/-- a list, to be read -/
def lstOf (h : Hea) : Val → Option (List Val)
  | .lst xs => some xs
  | .ref i => lstAt h i
  | _ => none
theorem Rel.lstV (R : Rel S ρ h H) {d : Val} {v : V} {xs : List Val} (r : Rep S ρ H d v) (e : lstOf h d = some xs) : ∃ a vs, v = .ref a ∧ SqL S.K H a vs ∧ Reps S ρ H xs vs := by
  unfold lstOf at e
  split at e
  · cases e
    cases r with
    | lst f h1 h2 => exact ⟨_, _, rfl, .inl (.inl h1), h2⟩
  · obtain ⟨p, rfl, ep⟩ := r.ref_
    obtain ⟨vs, s, q⟩ := R.lst e ep
    exact ⟨p, vs, rfl, s, q⟩
  · cases e
/-- a list other than the script -/
def lstP (h : Hea) : Val → Option (List Val)
  | .lst xs => some xs
  | .ref i => match h[i]? with
    | some (.lst xs) => some xs
    | _ => none
  | _ => none
theorem Rel.lstQ (R : Rel S ρ h H) {d : Val} {v : V} {xs : List Val} (r : Rep S ρ H d v) (e : lstP h d = some xs) : ∃ a vs, v = .ref a ∧ H a = some (.lst vs) ∧ Reps S ρ H xs vs := by
  unfold lstP at e
  split at e
  · cases e
    cases r with
    | lst f h1 h2 => exact ⟨_, _, rfl, h1, h2⟩
  · obtain ⟨p, rfl, ep⟩ := r.ref_
    split at e
    · rename_i hx
      cases e
      have o := R.ob _ _ _ hx ep
      cases o with
      | lst h1 h2 => exact ⟨p, _, rfl, h1, h2⟩
    · cases e
  · cases e
end
theorem Reps.times {S : Sy} {ρ : Own} {H : Hp} {ds : List Val} {vs : List V} (r : Reps S ρ H ds vs) : ∀ n : Nat, Reps S ρ H (List.replicate n ds).flatten (List.replicate n vs).flatten
  | 0 => .nil
  | n + 1 => by
    rw [List.replicate_succ, List.replicate_succ, List.flatten_cons, List.flatten_cons]
    exact r.app (r.times n)
/-! ### operators by values -/
def rB (S : Sy) (g : Hea → Val → Val → Option Val) : R2 := fun x y H Q => ∃ ρ h d1 d2, Rel S ρ h H ∧ Rep S ρ H d1 x ∧ Rep S ρ H d2 y ∧ Aft S ρ H (opt (g h d1 d2) h) Q (fun _ _ _ => False)
def rU1 (S : Sy) (g : Hea → Val → Option Val) : V → Hp → VK → Prop := fun x H Q => ∃ ρ h d, Rel S ρ h H ∧ Rep S ρ H d x ∧ Aft S ρ H (opt (g h d) h) Q (fun _ _ _ => False)
theorem OpR.imp {X : Cx} {f : Value → Value → Sem Value} {r r' : R2} (p : OpR X f r) (h : ∀ x y H Q, r' x y H Q → r x y H Q) : OpR X f r' := fun pins s σ H x y v u Q I rx ry q => p pins s σ H x y v u Q I rx ry (h x y H Q q)
def mulOk (i j : Int) : Bool := decide ((-(2 ^ 64) < i ∧ i < 2 ^ 64) ∨ (-(2 ^ 64) < j ∧ j < 2 ^ 64)) || decide (i.natAbs.log2 + j.natAbs.log2 < 1000000)
def oAdd : Hea → Val → Val → Option Val
  | _, .int a, .int b => some (.int (a + b))
  | _, .str a, .str b => if a.length + b.length ≤ 16777216 then some (.str (a ++ b)) else none
  | _, .tup a, .tup b => if a.length + b.length ≤ 16777216 then some (.tup (a ++ b)) else none
  | h, a, b => match lstP h a, lstP h b with
    | some a, some b => if a.length + b.length ≤ 16777216 then some (.lst (a ++ b)) else none
    | _, _ => none
def oSub : Hea → Val → Val → Option Val
  | _, .int a, .int b => some (.int (a - b))
  | _, _, _ => none
def oMul : Hea → Val → Val → Option Val
  | _, .int a, .int b => if mulOk a b = true then some (.int (a * b)) else none
  | h, a, .int k => match lstP h a with
    | some xs => if -(2 ^ 63) ≤ k ∧ k < 2 ^ 63 ∧ xs.length * k.toNat ≤ 16777216 then some (.lst (List.replicate k.toNat xs).flatten) else none
    | none => none
  | _, _, _ => none
def oDiv : Hea → Val → Val → Option Val
  | _, .int a, .int b => if b ≠ 0 ∧ b.natAbs.log2 < 9000 then some (.int (a.fdiv b)) else none
  | _, _, _ => none
def oMod : Hea → Val → Val → Option Val
  | _, .int a, .int b => if b ≠ 0 then some (.int (a.fmod b)) else none
  | _, _, _ => none
def oPow : Hea → Val → Val → Option Val
  | _, .int a, .int b => if 0 ≤ b ∧ b ≤ 1000000 ∧ a.natAbs < 2 ^ 64 then some (.int (a ^ b.toNat)) else none
  | _, _, _ => none
def oNeg : Hea → Val → Option Val
  | _, .int a => some (.int (-a))
  | _, _ => none
section
variable {T : Tb} {X : Cx}
theorem o_add : OpR X (binaryOp .Add) (rB (sy T X) oAdd) := by
  refine OpR.imp (OpR.or op_add (OpR.or op_add_str (OpR.or op_catA op_cat))) fun x y H Q h => ?_
  obtain ⟨ρ, h, d1, d2, R, r1, r2, a⟩ := h
  unfold oAdd at a
  split at a
  · obtain rfl := r1.int_; obtain rfl := r2.int_
    exact .inl ⟨_, _, rfl, rfl, a.same R (.int _)⟩
  · obtain rfl := r1.str_; obtain rfl := r2.str_
    split at a
    · rename_i hl
      exact .inr (.inl ⟨_, _, rfl, rfl, by rw [sizeLine_eq]; exact hl, a.same R (.str _)⟩)
    · exact a.elim
  · obtain ⟨p1, v1, rfl, s1, q1⟩ := r1.tup_
    obtain ⟨p2, v2, rfl, s2, q2⟩ := r2.tup_
    split at a
    · rename_i hl
      have l1 := q1.length
      have l2 := q2.length
      refine .inr (.inr (.inl ⟨p1, p2, v1, v2, rfl, rfl, s1, s2, by rw [sizeLine_eq]; omega, fun e => ?_, fun _ e => ?_, fun _ _ p n => ?_⟩))
      · subst e
        cases q1
        exact a.same R (.tup s2 q2)
      · subst e
        cases q2
        have a : Aft _ ρ H (.ok (.tup (_ ++ [])) h) Q _ := a
        rw [List.append_nil] at a
        exact a.same R (.tup s1 q1)
      · exact a.tup R (q1.app q2) p n
    · exact a.elim
  · split at a
    · rename_i xs ys e1 e2
      obtain ⟨p1, v1, rfl, s1, q1⟩ := R.lstQ r1 e1
      obtain ⟨p2, v2, rfl, s2, q2⟩ := R.lstQ r2 e2
      have l1 := q1.length
      have l2 := q2.length
      split at a
      · exact .inr (.inr (.inr ⟨p1, p2, v1, v2, rfl, rfl, s1, s2, by rw [sizeLine_eq]; omega, fun p n => Aft.flst a R (q1.app q2) p n⟩))
      · exact a.elim
    · exact a.elim
theorem o_sub : OpR X (binaryOp .Sub) (rB (sy T X) oSub) := by
  refine OpR.imp op_sub fun x y H Q h => ?_
  obtain ⟨ρ, h, d1, d2, R, r1, r2, a⟩ := h
  unfold oSub at a
  split at a
  · obtain rfl := r1.int_; obtain rfl := r2.int_
    exact ⟨_, _, rfl, rfl, a.same R (.int _)⟩
  · exact a.elim
theorem o_mul : OpR X (binaryOp .Mult) (rB (sy T X) oMul) := by
  refine OpR.imp (OpR.or op_mul (OpR.or op_mulW op_rep)) fun x y H Q h => ?_
  obtain ⟨ρ, h, d1, d2, R, r1, r2, a⟩ := h
  unfold oMul at a
  split at a
  · obtain rfl := r1.int_; obtain rfl := r2.int_
    split at a
    · rename_i hm
      unfold mulOk at hm
      rcases Bool.or_eq_true_iff.mp hm with hm | hm
      · have hm2 := of_decide_eq_true hm
        exact .inl ⟨_, _, rfl, rfl, hm2, a.same R (.int _)⟩
      · exact .inr (.inl ⟨_, _, rfl, rfl, (of_decide_eq_true (p := _ < 1000000) hm : _ < 1000000), a.same R (.int _)⟩)
    · exact a.elim
  · obtain rfl := r2.int_
    split at a
    · rename_i xs e1
      split at a
      · rename_i hk
        obtain ⟨p1, v1, rfl, s1, q1⟩ := R.lstQ r1 e1
        have l1 := q1.length
        exact .inr (.inr ⟨p1, _, v1, rfl, rfl, s1, hk.1, hk.2.1, by rw [sizeLine_eq, ← l1]; exact hk.2.2, fun p n => Aft.flst a R (q1.times _) p n⟩)
      · exact a.elim
    · exact a.elim
  · exact a.elim
theorem op_fdivA : OpR X (binaryOp .FloorDiv) (rI (fun _ j => j ≠ 0 ∧ j.natAbs.log2 < 9000) fun i j => .int (i.fdiv j)) := opI fun _ _ _ _ _ _ _ hc q => PyProof.Rows.floordiv_int hc.1 q (.inl (PyProof.noPylong_of_log2 hc.2))
theorem o_div : OpR X (binaryOp .FloorDiv) (rB (sy T X) oDiv) := by
  refine OpR.imp op_fdivA fun x y H Q h => ?_
  obtain ⟨ρ, h, d1, d2, R, r1, r2, a⟩ := h
  unfold oDiv at a
  split at a
  · obtain rfl := r1.int_; obtain rfl := r2.int_
    split at a
    · rename_i hm
      exact ⟨_, _, rfl, rfl, hm, a.same R (.int _)⟩
    · exact a.elim
  · exact a.elim
theorem o_mod : OpR X (binaryOp .Mod) (rB (sy T X) oMod) := by
  refine OpR.imp op_modN fun x y H Q h => ?_
  obtain ⟨ρ, h, d1, d2, R, r1, r2, a⟩ := h
  unfold oMod at a
  split at a
  · obtain rfl := r1.int_; obtain rfl := r2.int_
    split at a
    · rename_i hm
      exact ⟨_, _, rfl, rfl, hm, a.same R (.int _)⟩
    · exact a.elim
  · exact a.elim
theorem o_pow : OpR X (binaryOp .Pow) (rB (sy T X) oPow) := by
  refine OpR.imp op_pow fun x y H Q h => ?_
  obtain ⟨ρ, h, d1, d2, R, r1, r2, a⟩ := h
  unfold oPow at a
  split at a
  · obtain rfl := r1.int_; obtain rfl := r2.int_
    split at a
    · rename_i hm
      exact ⟨_, _, rfl, rfl, hm, a.same R (.int _)⟩
    · exact a.elim
  · exact a.elim
theorem o_neg : UnR X (unaryOp .USub) (rU1 (sy T X) oNeg) := by
  intro pins s σ H x v Q I rx h
  refine un_neg pins s σ H x v Q I rx ?_
  obtain ⟨ρ, h, d, R, r, a⟩ := h
  unfold oNeg at a
  split at a
  · obtain rfl := r.int_
    exact ⟨_, rfl, a.same R (.int _)⟩
  · exact a.elim
end
/-! ### data, ==, in -/
def mapO {α β : Type} (f : α → Option β) : List α → Option (List β)
  | [] => some []
  | x :: xs => match f x, mapO f xs with
    | some y, some ys => some (y :: ys)
    | _, _ => none
def toD : Nat → Hea → Val → Option PyData
  | _, _, .non => some .none
  | _, _, .bl b => some (.bool b)
  | _, _, .int i => some (.int i)
  | _, _, .str x => some (.str x)
  | 0, _, _ => none
  | n + 1, h, .tup xs => match mapO (toD n h) xs with
    | some ys => some (.tuple ys)
    | none => none
  | n + 1, h, .lst xs => match mapO (toD n h) xs with
    | some ys => some (.list ys)
    | none => none
  | n + 1, h, .ref i => match lstAt h i with
    | some xs => match mapO (toD n h) xs with
      | some ys => some (.list ys)
      | none => none
    | none => none
  | _ + 1, _, _ => none
section
variable {S : Sy} {ρ : Own} {H : Hp} {h : Hea}
theorem mapO_dp (n : Nat) (ih : ∀ (d : Val) (v : V) (p : PyData), Rep S ρ H d v → toD n h d = some p → Dp S.K H v p) : ∀ (xs : List Val) (vs : List V) (ps : List PyData), Reps S ρ H xs vs → mapO (toD n h) xs = some ps → DpAll S.K H vs ps
  | [], _, _, .nil, e => by cases e; exact .nil
  | x :: xs, _, _, .cons r t, e => by
    unfold mapO at e
    split at e
    · rename_i y ys h1 h2
      cases e
      exact .cons (ih _ _ _ r h1) (mapO_dp n ih xs _ _ t h2)
    · cases e
theorem toD_dp (R : Rel S ρ h H) : ∀ (n : Nat) (d : Val) (v : V) (p : PyData), Rep S ρ H d v → toD n h d = some p → Dp S.K H v p := by
  intro n
  induction n with
  | zero =>
    intro d v p r e
    cases r <;> simp only [toD] at e <;> cases e <;> constructor
  | succ n ih =>
    intro d v p r e
    cases r with
    | non => simp only [toD] at e; cases e; exact .non
    | bl b => simp only [toD] at e; cases e; exact .bl b
    | int b => simp only [toD] at e; cases e; exact .int b
    | str b => simp only [toD] at e; cases e; exact .str b
    | tup s t =>
      simp only [toD] at e
      split at e
      · rename_i ys hy
        cases e
        exact .tup s (mapO_dp n ih _ _ _ t hy)
      · cases e
    | lst f h1 h2 =>
      simp only [toD] at e
      split at e
      · rename_i ys hy
        cases e
        exact .lst (.inl (.inl h1)) (mapO_dp n ih _ _ _ h2 hy)
      · cases e
    | dicK => simp only [toD] at e; cases e
    | dicT => simp only [toD] at e; cases e
    | obj => simp only [toD] at e; cases e
    | ref ea =>
      simp only [toD] at e
      split at e
      · rename_i xs hx
        split at e
        · rename_i ys hy
          cases e
          obtain ⟨vs, s, t⟩ := R.lst hx ea
          exact .lst s (mapO_dp n ih _ _ _ t hy)
        · cases e
      · cases e
    | exn h1 h2 r => simp only [toD] at e; cases e
end
def eqB (h : Hea) (a b : Val) : Option Bool := match toD 60 h a, toD 60 h b with
  | some p, some q => if SeqAt.shaped p = true ∧ SeqAt.shaped q = true then some (PyData.eqv p q) else none
  | _, _ => none
def oEq (h : Hea) (a b : Val) : Option Val := (eqB h a b).map .bl
def oNe (h : Hea) (a b : Val) : Option Val := (eqB h a b).map fun c => .bl (!c)
theorem eqB_some {h : Hea} {a b : Val} {c : Bool} (e : eqB h a b = some c) : ∃ p q, toD 60 h a = some p ∧ toD 60 h b = some q ∧ SeqAt.shaped p = true ∧ SeqAt.shaped q = true ∧ c = PyData.eqv p q := by
  unfold eqB at e
  split at e
  · split at e
    · rename_i p q h1 h2 hs
      cases e
      exact ⟨p, q, h1, h2, hs.1, hs.2, rfl⟩
    · cases e
  · cases e
section
variable {T : Tb} {X : Cx}
theorem o_eq (hu : X.A.units + 64 < cLine) : OpR X (compareOp .Eq) (rB (sy T X) oEq) := by
  refine OpR.imp (op_eqD hu) fun x y H Q h => ?_
  obtain ⟨ρ, h, d1, d2, R, r1, r2, a⟩ := h
  unfold oEq at a
  cases e : eqB h d1 d2 with
  | none => rw [e] at a; exact a.elim
  | some c =>
    rw [e] at a
    obtain ⟨p, q, e1, e2, s1, s2, rfl⟩ := eqB_some e
    exact ⟨p, q, toD_dp R _ _ _ _ r1 e1, toD_dp R _ _ _ _ r2 e2, s1, s2, Aft.same (d := .bl _) a R (.bl _)⟩
theorem o_ne (hu : X.A.units + 64 < cLine) : OpR X (compareOp .NotEq) (rB (sy T X) oNe) := by
  refine OpR.imp (op_neD hu) fun x y H Q h => ?_
  obtain ⟨ρ, h, d1, d2, R, r1, r2, a⟩ := h
  unfold oNe at a
  cases e : eqB h d1 d2 with
  | none => rw [e] at a; exact a.elim
  | some c =>
    rw [e] at a
    obtain ⟨p, q, e1, e2, s1, s2, rfl⟩ := eqB_some e
    exact ⟨p, q, toD_dp R _ _ _ _ r1 e1, toD_dp R _ _ _ _ r2 e2, s1, s2, Aft.same (d := .bl _) a R (.bl _)⟩
end
def inB (h : Hea) (a b : Val) : Option Bool := match toD 60 h a, toD 60 h b with
  | some p, some (.list qs) => if SeqAt.shaped p = true ∧ SeqAt.shaped (.list qs) = true then some (qs.any fun z => PyData.eqv z p) else none
  | some p, some (.tuple qs) => if SeqAt.shaped p = true ∧ SeqAt.shaped (.tuple qs) = true then some (qs.any fun z => PyData.eqv z p) else none
  | some (.str p), some (.str q) => some (!(Builtin.Str.occurrences q p 0 q.length 1).isEmpty)
  | _, _ => none
def oIn (h : Hea) (a b : Val) : Option Val := (inB h a b).map .bl
def oNotIn (h : Hea) (a b : Val) : Option Val := (inB h a b).map fun c => .bl (!c)
theorem toD_str {n : Nat} {h : Hea} {d : Val} {p : Str} (e : toD n h d = some (.str p)) : d = .str p := by
  cases d with
  | str z => cases n <;> (simp only [toD] at e; cases e; rfl)
  | non => cases n <;> (simp only [toD] at e; cases e)
  | bl z => cases n <;> (simp only [toD] at e; cases e)
  | int z => cases n <;> (simp only [toD] at e; cases e)
  | exn c z => cases n <;> (simp only [toD] at e; cases e)
  | dic c z w => cases n <;> (simp only [toD] at e; cases e)
  | obj c z w => cases n <;> (simp only [toD] at e; cases e)
  | lst z =>
    cases n with
    | zero => simp only [toD] at e; cases e
    | succ n =>
      simp only [toD] at e
      split at e <;> cases e
  | tup z =>
    cases n with
    | zero => simp only [toD] at e; cases e
    | succ n =>
      simp only [toD] at e
      split at e <;> cases e
  | ref z =>
    cases n with
    | zero => simp only [toD] at e; cases e
    | succ n =>
      simp only [toD] at e
      split at e
      · split at e <;> cases e
      · cases e
section
variable {T : Tb} {X : Cx}
def rInT (K : PySem.W.Frag) (ng : Bool) : R2 := fun x y H Q => ∃ d ds, Dp K H x d ∧ Dp K H y (.tuple ds) ∧ SeqAt.shaped d = true ∧ SeqAt.shaped (.tuple ds) = true ∧ Q (.bl (if ng = true then !ds.any (fun z => PyData.eqv z d) else ds.any fun z => PyData.eqv z d)) H
theorem op_inT (hu : X.A.units + 65 < cLine) : OpR X (compareOp .In) (rInT X.K false) := by
  intro pins s σ H x y v u Q I rx ry h
  obtain ⟨d, ds, hd, he, sd, se, q⟩ := h
  obtain ⟨as, r1⟩ := Dp.reads I d x v hd rx
  obtain ⟨bs, r2⟩ := Dp.reads I (.tuple ds) y u he ry
  exact SeqAt.in_tuple_reads r2 r1 (SeqAt.canLay_of_shaped se) (SeqAt.canLay_of_shaped sd) (PyProof.Rows.room_in_shaped sd hu) ⟨.bl _, H, I, rfl, q⟩
theorem op_notInT (hu : X.A.units + 65 < cLine) : OpR X (compareOp .NotIn) (rInT X.K true) := by
  intro pins s σ H x y v u Q I rx ry h
  obtain ⟨d, ds, hd, he, sd, se, q⟩ := h
  obtain ⟨as, r1⟩ := Dp.reads I d x v hd rx
  obtain ⟨bs, r2⟩ := Dp.reads I (.tuple ds) y u he ry
  exact SeqAt.notIn_tuple_reads r2 r1 (SeqAt.canLay_of_shaped se) (SeqAt.canLay_of_shaped sd) (PyProof.Rows.room_in_shaped sd hu) ⟨.bl _, H, I, rfl, q⟩
theorem o_in (hu : X.A.units + 65 < cLine) : OpR X (compareOp .In) (rB (sy T X) oIn) := by
  refine OpR.imp (OpR.or (op_inD hu) (OpR.or (op_inT hu) op_in_str)) fun x y H Q h => ?_
  obtain ⟨ρ, h, d1, d2, R, r1, r2, a⟩ := h
  unfold oIn inB at a
  split at a
  · rename_i p qs e1 e2
    split at a
    · rename_i hs
      exact .inl ⟨p, qs, toD_dp R _ _ _ _ r1 e1, toD_dp R _ _ _ _ r2 e2, hs.1, hs.2, Aft.same (d := .bl _) a R (.bl _)⟩
    · exact a.elim
  · rename_i p qs e1 e2
    split at a
    · rename_i hs
      exact .inr (.inl ⟨p, qs, toD_dp R _ _ _ _ r1 e1, toD_dp R _ _ _ _ r2 e2, hs.1, hs.2, Aft.same (d := .bl _) a R (.bl _)⟩)
    · exact a.elim
  · rename_i p q e1 e2
    obtain rfl := toD_str e1
    obtain rfl := toD_str e2
    obtain rfl := r1.str_
    obtain rfl := r2.str_
    exact .inr (.inr ⟨p, q, rfl, rfl, Aft.same (d := .bl _) a R (.bl _)⟩)
  · exact a.elim
theorem o_notIn (hu : X.A.units + 65 < cLine) : OpR X (compareOp .NotIn) (rB (sy T X) oNotIn) := by
  refine OpR.imp (OpR.or (op_notInD hu) (OpR.or (op_notInT hu) op_notin_str)) fun x y H Q h => ?_
  obtain ⟨ρ, h, d1, d2, R, r1, r2, a⟩ := h
  unfold oNotIn inB at a
  split at a
  · rename_i p qs e1 e2
    split at a
    · rename_i hs
      exact .inl ⟨p, qs, toD_dp R _ _ _ _ r1 e1, toD_dp R _ _ _ _ r2 e2, hs.1, hs.2, Aft.same (d := .bl _) a R (.bl _)⟩
    · exact a.elim
  · rename_i p qs e1 e2
    split at a
    · rename_i hs
      exact .inr (.inl ⟨p, qs, toD_dp R _ _ _ _ r1 e1, toD_dp R _ _ _ _ r2 e2, hs.1, hs.2, Aft.same (d := .bl _) a R (.bl _)⟩)
    · exact a.elim
  · rename_i p q e1 e2
    obtain rfl := toD_str e1
    obtain rfl := toD_str e2
    obtain rfl := r1.str_
    obtain rfl := r2.str_
    exact .inr (.inr ⟨p, q, rfl, rfl, Aft.same (d := .bl _) a R (.bl _)⟩)
  · exact a.elim
end
/-! ### order -/
def lexLt : List Val → List Val → Option Bool
  | [], [] => some false
  | [], _ :: _ => some true
  | _ :: _, [] => some false
  | .int a :: as, .int b :: bs => if a = b then lexLt as bs else some (decide (a < b))
  | _, _ => none
def oLt : Hea → Val → Val → Option Val
  | _, .int a, .int b => some (.bl (decide (a < b)))
  | _, .str a, .str b => some (.bl (decide (a.cps.toList < b.cps.toList)))
  | _, _, _ => none
def oLe : Hea → Val → Val → Option Val
  | _, .int a, .int b => some (.bl (decide (a ≤ b)))
  | _, _, _ => none
def oGt : Hea → Val → Val → Option Val
  | _, .int a, .int b => some (.bl (decide (b < a)))
  | _, _, _ => none
def oGe : Hea → Val → Val → Option Val
  | _, .int a, .int b => some (.bl (decide (b ≤ a)))
  | _, _, _ => none
/-- is, is not: None or a bool on the right -/
def isB : Val → Val → Option Bool
  | .non, .non => some true
  | _, .non => some false
  | .bl a, .bl b => some (decide (a = b))
  | _, _ => none
def oIs (_ : Hea) (a b : Val) : Option Val := (isB a b).map .bl
def oIsNot (_ : Hea) (a b : Val) : Option Val := (isB a b).map fun c => .bl (!c)
section
variable {T : Tb} {X : Cx}
theorem o_lt : OpR X (compareOp .Lt) (rB (sy T X) oLt) := by
  refine OpR.imp (OpR.or op_lt op_lt_str) fun x y H Q h => ?_
  obtain ⟨ρ, h, d1, d2, R, r1, r2, a⟩ := h
  unfold oLt at a
  split at a
  · obtain rfl := r1.int_; obtain rfl := r2.int_
    exact .inl ⟨_, _, rfl, rfl, a.same R (.bl _)⟩
  · obtain rfl := r1.str_; obtain rfl := r2.str_
    exact .inr ⟨_, _, rfl, rfl, a.same R (.bl _)⟩
  · exact a.elim
theorem o_le : OpR X (compareOp .LtE) (rB (sy T X) oLe) := by
  refine OpR.imp op_le fun x y H Q h => ?_
  obtain ⟨ρ, h, d1, d2, R, r1, r2, a⟩ := h
  unfold oLe at a
  split at a
  · obtain rfl := r1.int_; obtain rfl := r2.int_
    exact ⟨_, _, rfl, rfl, a.same R (.bl _)⟩
  · exact a.elim
theorem o_gt : OpR X (compareOp .Gt) (rB (sy T X) oGt) := by
  refine OpR.imp op_gt fun x y H Q h => ?_
  obtain ⟨ρ, h, d1, d2, R, r1, r2, a⟩ := h
  unfold oGt at a
  split at a
  · obtain rfl := r1.int_; obtain rfl := r2.int_
    exact ⟨_, _, rfl, rfl, a.same R (.bl _)⟩
  · exact a.elim
theorem o_ge : OpR X (compareOp .GtE) (rB (sy T X) oGe) := by
  refine OpR.imp op_ge fun x y H Q h => ?_
  obtain ⟨ρ, h, d1, d2, R, r1, r2, a⟩ := h
  unfold oGe at a
  split at a
  · obtain rfl := r1.int_; obtain rfl := r2.int_
    exact ⟨_, _, rfl, rfl, a.same R (.bl _)⟩
  · exact a.elim
theorem o_is : OpR X (compareOp .Is) (rB (sy T X) oIs) := by
  refine OpR.imp (OpR.or op_isN op_is_bl) fun x y H Q h => ?_
  obtain ⟨ρ, h, d1, d2, R, r1, r2, a⟩ := h
  unfold oIs isB at a
  split at a
  · obtain rfl := r1.non_; obtain rfl := r2.non_
    exact .inl ⟨rfl, Aft.same (d := .bl _) a R (.bl _)⟩
  · rename_i hn
    obtain rfl := r2.non_
    refine .inl ⟨rfl, ?_⟩
    have e : decide (x = V.non) = false := by
      refine decide_eq_false fun z => ?_
      subst z
      cases r1
      exact hn rfl
    rw [e]
    exact Aft.same (d := .bl _) a R (.bl _)
  · obtain rfl := r1.bl_; obtain rfl := r2.bl_
    exact .inr ⟨_, _, rfl, rfl, Aft.same (d := .bl _) a R (.bl _)⟩
  · exact a.elim
theorem o_isNot : OpR X (compareOp .IsNot) (rB (sy T X) oIsNot) := by
  refine OpR.imp (OpR.or op_notN op_isnot_bl) fun x y H Q h => ?_
  obtain ⟨ρ, h, d1, d2, R, r1, r2, a⟩ := h
  unfold oIsNot isB at a
  split at a
  · obtain rfl := r1.non_; obtain rfl := r2.non_
    exact .inl ⟨rfl, Aft.same (d := .bl _) a R (.bl _)⟩
  · rename_i hn
    obtain rfl := r2.non_
    refine .inl ⟨rfl, ?_⟩
    have e : decide (x = V.non) = false := by
      refine decide_eq_false fun z => ?_
      subst z
      cases r1
      exact hn rfl
    rw [e]
    exact Aft.same (d := .bl _) a R (.bl _)
  · obtain rfl := r1.bl_; obtain rfl := r2.bl_
    exact .inr ⟨_, _, rfl, rfl, Aft.same (d := .bl _) a R (.bl _)⟩
  · exact a.elim
end
end Lad
end
/-! ## LadEx -/
section
set_option maxRecDepth 100000
set_option maxHeartbeats 1000000
namespace Lad
open PySem L2
theorem itT {c : Bool} {A B : Prop} (e : c = true) (h : A) : if c = true then A else B := by rw [if_pos e]; exact h
theorem itF {c : Bool} {A B : Prop} (e : c = false) (h : B) : if c = true then A else B := by rw [if_neg (by rw [e]; decide)]; exact h
/-! ### judgements: an expression; one that makes a list that nothing else holds; arguments; a test -/
section
variable (S : Sy)
def AftL (ρ : Own) (H : Hp) (r : Res (List Val)) (Q : VK) (W : XK) : Prop := match r with
  | .ok xs h' => ∀ ρ' p vs H', Go S ρ H ρ' H' → Rel S ρ' h' H' → H' p = some (.lst vs) → Fz ρ' p → H p = none → Reps S ρ' H' xs vs → Rel S (ρ'.add p) (h' ++ [.lst xs]) H' → Q (.ref p) H'
  | .exc c d h' => ∀ ρ' v H' dx, Go S ρ H ρ' H' → Rel S ρ' h' H' → Rep S ρ' H' d v → H' dx = some (.xd [(S.fld c, v)]) → W (.ref (S.ca c)) (some dx) H'
  | .stuck => False
def AftA (ρ : Own) (H : Hp) (r : Res (List Val)) (Q : List V → Hp → Prop) (W : XK) : Prop := match r with
  | .ok xs h' => ∀ ρ' vs H', Go S ρ H ρ' H' → Rel S ρ' h' H' → Reps S ρ' H' xs vs → Q vs H'
  | .exc c d h' => ∀ ρ' v H' dx, Go S ρ H ρ' H' → Rel S ρ' h' H' → Rep S ρ' H' d v → H' dx = some (.xd [(S.fld c, v)]) → W (.ref (S.ca c)) (some dx) H'
  | .stuck => False
def tL (W : WX) (f : En → Hea → Res (List Val)) : TE := fun σ H Q => ∃ ρ e h, Rel S ρ h H ∧ ER S ρ H e σ ∧ AftL S ρ H (f e h) Q (fun c d H' => W c d σ H')
def tA (W : WX) (f : En → Hea → Res (List Val)) : TA := fun σ H Q => ∃ ρ e h, Rel S ρ h H ∧ ER S ρ H e σ ∧ AftA S ρ H (f e h) Q (fun c d H' => W c d σ H')
end
abbrev SE (T : Tb) (X : Cx) (W : WX) (e : Expr) (f : En → Hea → Res Val) : Prop := PE X e (tE (sy T X) W f)
abbrev SL (T : Tb) (X : Cx) (W : WX) (e : Expr) (f : En → Hea → Res (List Val)) : Prop := PE X e (tL (sy T X) W f)
abbrev SA (T : Tb) (X : Cx) (W : WX) (es : List Expr) (f : En → Hea → Res (List Val)) : Prop := PA X es (tA (sy T X) W f)
abbrev ST (T : Tb) (X : Cx) (W : WX) (e : Expr) (f : En → Hea → Res Val) : Prop := PT X e (tB (tE (sy T X) W f))
/-! ### one after the other -/
section
variable {S : Sy} {W : WX} {σ : St} {H : Hp} {Q : VK}
/-- where an expression has been -/
structure Been (S : Sy) (σ : St) (H : Hp) (v : V) (ρ : Own) (e : En) (d : Val) (h : Hea) : Prop where
  rel : Rel S ρ h H
  env : ER S ρ H e σ
  rep : Rep S ρ H d v
theorem tE.bind {f : En → Hea → Res Val} {g : En → Val → Hea → Res Val} (a : tE S W (fun e h => (f e h).bind (g e)) σ H Q) :
    tE S W f σ H (fun v H1 => ∃ ρ e d h, Been S σ H1 v ρ e d h ∧ Aft S ρ H1 (g e d h) Q (fun c d H' => W c d σ H')) := by
  obtain ⟨ρ, e, h, R, E, a⟩ := a
  exact ⟨ρ, e, h, R, E, a.bind.mono fun v H1 ⟨ρ1, d, h1, s, R1, r, a⟩ => ⟨ρ1, e, d, h1, ⟨R1, E.go s, r⟩, a⟩⟩
/-- a second one behind it -/
theorem Been.then_ {v : V} {ρ : Own} {e : En} {d : Val} {h : Hea} {f : En → Hea → Res Val} {k : Val → Hea → Res Val} (b : Been S σ H v ρ e d h) (a : Aft S ρ H ((f e h).bind k) Q (fun c d H' => W c d σ H')) :
    tE S W f σ H (fun v2 H2 => ∃ ρ2 d2 h2, Been S σ H2 v2 ρ2 e d2 h2 ∧ Rep S ρ2 H2 d v ∧ Aft S ρ2 H2 (k d2 h2) Q (fun c d H' => W c d σ H')) :=
  ⟨ρ, e, h, b.rel, b.env, a.bind.mono fun v2 H2 ⟨ρ2, d2, h2, s, R2, r2, a2⟩ => ⟨ρ2, d2, h2, ⟨R2, b.env.go s, r2⟩, b.rep.go s, a2⟩⟩
theorem Aft.noW {ρ : Own} {h : Hea} {o : Option Val} {W W' : XK} (a : Aft S ρ H (opt o h) Q W) : Aft S ρ H (opt o h) Q W' := by
  cases o with
  | some d => exact a
  | none => exact a
end
/-! ### names, constants -/
def eVar (i : Nat) : En → Hea → Res Val := fun e h => match e[i]? with
  | some (some d) => .ok d h
  | _ => .stuck
def eC (d : Val) : En → Hea → Res Val := fun _ h => .ok d h
section
variable {T : Tb} {X : Cx} {W : WX}
theorem se_var {i : Nat} {x : Str} {pos : Pos} (p : PE X (.Name x pos) (tVar i)) : SE T X W (.Name x pos) (eVar i) := p.imp fun σ H Q h => by
  obtain ⟨ρ, e, h, R, E, a⟩ := h
  unfold eVar at a
  split at a
  · rename_i d hd
    obtain ⟨v, ev, r⟩ := E.get hd
    exact ⟨v, ev, a.same R r⟩
  · exact a.elim
theorem se_cst {e : Expr} {d : Val} {v : V} (p : PE X e (tC v)) (hr : ∀ ρ H, Rep (sy T X) ρ H d v) : SE T X W e (eC d) := p.imp fun σ H Q h => by
  obtain ⟨ρ, e, h, R, E, a⟩ := h
  exact a.same R (hr ρ H)
theorem se_int {i j pos} : SE T X W (.Constant (.int i) j pos) (eC (.int i)) := se_cst pe_int fun _ _ => .int i
theorem se_bl {i j pos} : SE T X W (.Constant (.bool i) j pos) (eC (.bl i)) := se_cst pe_bl fun _ _ => .bl i
theorem se_non {j pos} : SE T X W (.Constant .none j pos) (eC .non) := se_cst pe_non fun _ _ => .non
theorem se_str {i j pos} : SE T X W (.Constant (.str i) j pos) (eC (.str i)) := se_cst pe_str fun _ _ => .str i
end
/-! ### operators -/
def eBin (g : Hea → Val → Val → Option Val) (f1 f2 : En → Hea → Res Val) : En → Hea → Res Val := fun e h => (f1 e h).bind fun x h1 => (f2 e h1).bind fun y h2 => opt (g h2 x y) h2
def eUn (g : Hea → Val → Option Val) (f : En → Hea → Res Val) : En → Hea → Res Val := fun e h => (f e h).bind fun x h1 => opt (g h1 x) h1
section
variable {T : Tb} {X : Cx} {W : WX} {a b c : Expr} {f1 f2 f3 : En → Hea → Res Val} {pos : Pos}
theorem bin_imp {g : Hea → Val → Val → Option Val} {σ : St} {H : Hp} {Q : VK} (q : tE (sy T X) W (eBin g f1 f2) σ H Q) : tOp (rB (sy T X) g) (tE (sy T X) W f1) (tE (sy T X) W f2) σ H Q := by
  obtain ⟨ρ, e, h, R, E, a⟩ := tE.bind (f := f1) (g := fun e x h1 => (f2 e h1).bind fun y h2 => opt (g h2 x y) h2) q
  refine ⟨ρ, e, h, R, E, a.mono fun v H1 ⟨ρ1, e1, d1, h1, b1, a1⟩ => ?_⟩
  obtain ⟨ρ', e', h', R', E', a'⟩ := b1.then_ (f := f2) (W := W) a1
  exact ⟨ρ', e', h', R', E', a'.mono fun v2 H2 ⟨ρ2, d2, h2, b2, r, a2⟩ => ⟨ρ2, h2, d1, d2, b2.rel, r, b2.rep, a2.noW⟩⟩
theorem se_bin {op : Operator} {g : Hea → Val → Val → Option Val} (ho : OpR X (binaryOp op) (rB (sy T X) g)) (ha : SE T X W a f1) (hb : SE T X W b f2) : SE T X W (.BinOp a op b pos) (eBin g f1 f2) :=
  (pe_op ho ha hb).imp fun σ H Q q => bin_imp q
theorem se_un {op : UnaryOp} {g : Hea → Val → Option Val} (ho : UnR X (unaryOp op) (rU1 (sy T X) g)) (ha : SE T X W a f1) : SE T X W (.UnaryOp op a pos) (eUn g f1) :=
  (pe_un ho ha).imp fun σ H Q q => by
    obtain ⟨ρ, e, h, R, E, a⟩ := tE.bind (f := f1) (g := fun e x h1 => opt (g h1 x) h1) q
    exact ⟨ρ, e, h, R, E, a.mono fun v H1 ⟨ρ1, e1, d1, h1, b1, a1⟩ => ⟨ρ1, h1, d1, b1.rel, b1.rep, a1.noW⟩⟩
theorem se_cmp {op : CmpOp} {g : Hea → Val → Val → Option Val} (ho : OpR X (compareOp op) (rB (sy T X) g)) (ha : SE T X W a f1) (hb : SE T X W b f2) (hm : behindInMarks op b = false) : SE T X W (.Compare a [op] [b] pos) (eBin g f1 f2) :=
  (pe_cmpR ho ha hb hm).imp fun σ H Q q => bin_imp q
theorem st_cmp {op : CmpOp} {g : Hea → Val → Val → Option Val} (ho : OpR X (compareOp op) (rB (sy T X) g)) (ha : SE T X W a f1) (hb : SE T X W b f2) (hm : behindInMarks op b = false) : ST T X W (.Compare a [op] [b] pos) (eBin g f1 f2) :=
  (pt_cmpR ho ha hb hm).imp fun σ H Q q => bin_imp q
/-- a op b op' c -/
def eChain (g g' : Hea → Val → Val → Option Val) (f1 f2 f3 : En → Hea → Res Val) : En → Hea → Res Val := fun e h => (f1 e h).bind fun x h1 => (f2 e h1).bind fun y h2 => match g h2 x y with
  | some (.bl true) => (f3 e h2).bind fun z h3 => opt (g' h3 y z) h3
  | some (.bl false) => .ok (.bl false) h2
  | _ => .stuck
theorem chain_imp {g g' : Hea → Val → Val → Option Val} {σ : St} {H : Hp} {Q : VK} (q : tE (sy T X) W (eChain g g' f1 f2 f3) σ H Q) : tChain (rB (sy T X) g) (rB (sy T X) g') (tE (sy T X) W f1) (tE (sy T X) W f2) (tE (sy T X) W f3) σ H Q := by
  obtain ⟨ρ, e, h, R, E, a⟩ := tE.bind (f := f1) (g := fun e x h1 => (f2 e h1).bind fun y h2 => match g h2 x y with
    | some (.bl true) => (f3 e h2).bind fun z h3 => opt (g' h3 y z) h3
    | some (.bl false) => .ok (.bl false) h2
    | _ => .stuck) q
  refine ⟨ρ, e, h, R, E, a.mono fun v H1 ⟨ρ1, e1, d1, h1, b1, a1⟩ => ?_⟩
  obtain ⟨ρ', e', h', R', E', a'⟩ := b1.then_ (f := f2) (W := W) a1
  refine ⟨ρ', e', h', R', E', a'.mono fun v2 H2 ⟨ρ2, d2, h2, b2, r, a2⟩ => ⟨ρ2, h2, d1, d2, b2.rel, r, b2.rep, ?_⟩⟩
  split at a2
  · rename_i hg
    rw [hg]
    refine fun ρ3 v3 H3 s3 R3 r3 => ?_
    obtain rfl := r3.bl_
    refine ⟨true, rfl, ?_⟩
    refine itT rfl ?_
    have b3 : Been (sy T X) σ H3 v2 ρ3 e1 d2 h2 := ⟨R3, b2.env.go s3, b2.rep.go s3⟩
    obtain ⟨ρ4, e4, h4, R4, E4, a4⟩ := b3.then_ (f := f3) (W := W) (a2.later s3)
    exact ⟨ρ4, e4, h4, R4, E4, a4.mono fun v5 H5 ⟨ρ5, d5, h5, b5, r5, a5⟩ => ⟨ρ5, h5, d2, d5, b5.rel, r5, b5.rep, a5.noW⟩⟩
  · rename_i hg
    rw [hg]
    refine fun ρ3 v3 H3 s3 R3 r3 => ?_
    obtain rfl := r3.bl_
    refine ⟨false, rfl, ?_⟩
    refine itF rfl ?_
    exact a2 ρ3 _ H3 s3 R3 r3
  · exact a2.elim
theorem se_chain {op op' : CmpOp} {g g' : Hea → Val → Val → Option Val} (ho : OpR X (compareOp op) (rB (sy T X) g)) (ho' : OpR X (compareOp op') (rB (sy T X) g')) (ha : SE T X W a f1) (hb : SE T X W b f2) (hc : SE T X W c f3)
    (p : PE X (.Compare a [op, op'] [b, c] pos) (tChain (rB (sy T X) g) (rB (sy T X) g') (tE (sy T X) W f1) (tE (sy T X) W f2) (tE (sy T X) W f3))) : SE T X W (.Compare a [op, op'] [b, c] pos) (eChain g g' f1 f2 f3) :=
  p.imp fun σ H Q q => chain_imp q
end
/-! ### and, or, not, x if c else y -/
def eAnd (f1 f2 : En → Hea → Res Val) : En → Hea → Res Val := fun e h => (f1 e h).bind fun x h1 => match x with
  | .bl true => f2 e h1
  | .bl false => .ok (.bl false) h1
  | _ => .stuck
def eOr (f1 f2 : En → Hea → Res Val) : En → Hea → Res Val := fun e h => (f1 e h).bind fun x h1 => match x with
  | .bl true => .ok (.bl true) h1
  | .bl false => f2 e h1
  | _ => .stuck
def oNot : Hea → Val → Option Val
  | _, .bl b => some (.bl (!b))
  | _, _ => none
def eIf (f1 f2 f3 : En → Hea → Res Val) : En → Hea → Res Val := fun e h => (f1 e h).bind fun x h1 => match x with
  | .bl true => f2 e h1
  | .bl false => f3 e h1
  | _ => .stuck
section
variable {T : Tb} {X : Cx} {W : WX} {a b c : Expr} {rest : List Expr} {f1 f2 f3 : En → Hea → Res Val} {pos : Pos}
theorem se_one {op} (h : SE T X W a f1) : SE T X W (.BoolOp op [a] pos) f1 := pe_one h
theorem se_and (ha : SE T X W a f1) (hb : SE T X W (.BoolOp .And (b :: rest) pos) f2) : SE T X W (.BoolOp .And (a :: b :: rest) pos) (eAnd f1 f2) := (pe_and ha hb).imp fun σ H Q q => by
  obtain ⟨ρ, e, h, R, E, a⟩ := tE.bind (f := f1) (g := fun e x h1 => match x with | .bl true => f2 e h1 | .bl false => .ok (.bl false) h1 | _ => .stuck) q
  refine ⟨ρ, e, h, R, E, a.mono fun v H1 ⟨ρ1, e1, d1, h1, b1, a1⟩ => ?_⟩
  obtain ⟨R1, E1, r1⟩ := b1
  split at a1
  · obtain rfl := r1.bl_
    refine ⟨true, rfl, ?_⟩
    refine itT rfl ?_
    exact ⟨ρ1, e1, h1, R1, E1, a1⟩
  · obtain rfl := r1.bl_
    refine ⟨false, rfl, ?_⟩
    refine itF rfl ?_
    exact a1.same R1 (.bl _)
  · exact a1.elim
theorem se_or (ha : SE T X W a f1) (hb : SE T X W (.BoolOp .Or (b :: rest) pos) f2) : SE T X W (.BoolOp .Or (a :: b :: rest) pos) (eOr f1 f2) := (pe_or ha hb).imp fun σ H Q q => by
  obtain ⟨ρ, e, h, R, E, a⟩ := tE.bind (f := f1) (g := fun e x h1 => match x with | .bl true => .ok (.bl true) h1 | .bl false => f2 e h1 | _ => .stuck) q
  refine ⟨ρ, e, h, R, E, a.mono fun v H1 ⟨ρ1, e1, d1, h1, b1, a1⟩ => ?_⟩
  obtain ⟨R1, E1, r1⟩ := b1
  split at a1
  · obtain rfl := r1.bl_
    refine ⟨true, rfl, ?_⟩
    refine itT rfl ?_
    exact a1.same R1 (.bl _)
  · obtain rfl := r1.bl_
    refine ⟨false, rfl, ?_⟩
    refine itF rfl ?_
    exact ⟨ρ1, e1, h1, R1, E1, a1⟩
  · exact a1.elim
theorem se_not (ha : SE T X W a f1) : SE T X W (.UnaryOp .Not a pos) (eUn oNot f1) := (pe_not ha).imp fun σ H Q q => by
  obtain ⟨ρ, e, h, R, E, a⟩ := tE.bind (f := f1) (g := fun e x h1 => opt (oNot h1 x) h1) q
  refine ⟨ρ, e, h, R, E, a.mono fun v H1 ⟨ρ1, e1, d1, h1, b1, a1⟩ => ?_⟩
  obtain ⟨R1, E1, r1⟩ := b1
  unfold oNot at a1
  split at a1
  · obtain rfl := r1.bl_
    exact ⟨_, rfl, a1.same R1 (.bl _)⟩
  · exact a1.elim
/-! tests -/
theorem st_val (h : SE T X W a f1) (he : ∀ whole, isTrue a X.env whole = (do let v ← whole; standAt a.pos; holding [v] (truthy v)) := by intro _; rfl) : ST T X W a f1 := pt_val h he
def tAndW (f1 f2 : En → Hea → Res Val) (S : Sy) (W : WX) : TT := tB (tE S W (eAnd f1 f2))
theorem sw_one (h : ST T X W a f1) : PW X (.BoolOp .And [a] pos) (tB (tE (sy T X) W f1)) := pw_and1 h
theorem sw_oneO (h : ST T X W a f1) : PW X (.BoolOp .Or [a] pos) (tB (tE (sy T X) W f1)) := pw_or1 h
theorem _root_.L2.PW.imp {e : Expr} {t t' : TT} (p : PW X e t) (h : ∀ σ H Q, t' σ H Q → t σ H Q) : PW X e t' := ⟨fun whole pins s σ H Q I q => p.run whole pins s σ H Q I (h σ H Q q)⟩
theorem sw_and (ha : ST T X W a f1) (hb : PW X (.BoolOp .And (b :: rest) pos) (tB (tE (sy T X) W f2))) : PW X (.BoolOp .And (a :: b :: rest) pos) (tB (tE (sy T X) W (eAnd f1 f2))) := (pw_and ha hb).imp fun σ H Q q => by
  obtain ⟨ρ, e, h, R, E, a⟩ := tE.bind (f := f1) (g := fun e x h1 => match x with | .bl true => f2 e h1 | .bl false => .ok (.bl false) h1 | _ => .stuck) q
  refine ⟨ρ, e, h, R, E, a.mono fun v H1 ⟨ρ1, e1, d1, h1, b1, a1⟩ => ?_⟩
  obtain ⟨R1, E1, r1⟩ := b1
  split at a1
  · obtain rfl := r1.bl_
    refine ⟨true, rfl, ?_⟩
    refine itT rfl ?_
    exact ⟨ρ1, e1, h1, R1, E1, a1⟩
  · obtain rfl := r1.bl_
    refine ⟨false, rfl, ?_⟩
    refine itF rfl ?_
    obtain ⟨c, ec, q⟩ := a1.same R1 (.bl _)
    cases ec
    exact q
  · exact a1.elim
theorem sw_or (ha : ST T X W a f1) (hb : PW X (.BoolOp .Or (b :: rest) pos) (tB (tE (sy T X) W f2))) : PW X (.BoolOp .Or (a :: b :: rest) pos) (tB (tE (sy T X) W (eOr f1 f2))) := (pw_or ha hb).imp fun σ H Q q => by
  obtain ⟨ρ, e, h, R, E, a⟩ := tE.bind (f := f1) (g := fun e x h1 => match x with | .bl true => .ok (.bl true) h1 | .bl false => f2 e h1 | _ => .stuck) q
  refine ⟨ρ, e, h, R, E, a.mono fun v H1 ⟨ρ1, e1, d1, h1, b1, a1⟩ => ?_⟩
  obtain ⟨R1, E1, r1⟩ := b1
  split at a1
  · obtain rfl := r1.bl_
    refine ⟨true, rfl, ?_⟩
    refine itT rfl ?_
    obtain ⟨c, ec, q⟩ := a1.same R1 (.bl _)
    cases ec
    exact q
  · obtain rfl := r1.bl_
    refine ⟨false, rfl, ?_⟩
    refine itF rfl ?_
    exact ⟨ρ1, e1, h1, R1, E1, a1⟩
  · exact a1.elim
theorem st_bool {op} (h : PW X (.BoolOp op (a :: rest) pos) (tB (tE (sy T X) W f1))) : ST T X W (.BoolOp op (a :: rest) pos) f1 := h.pt
theorem st_not (ha : ST T X W a f1) : ST T X W (.UnaryOp .Not a pos) (eUn oNot f1) := (pt_not ha).imp fun σ H Q q => by
  obtain ⟨ρ, e, h, R, E, a⟩ := tE.bind (f := f1) (g := fun e x h1 => opt (oNot h1 x) h1) q
  refine ⟨ρ, e, h, R, E, a.mono fun v H1 ⟨ρ1, e1, d1, h1, b1, a1⟩ => ?_⟩
  obtain ⟨R1, E1, r1⟩ := b1
  unfold oNot at a1
  split at a1
  · obtain rfl := r1.bl_
    obtain ⟨c, ec, q⟩ := a1.same R1 (.bl _)
    cases ec
    exact ⟨_, rfl, q⟩
  · exact a1.elim
theorem se_if (hc : ST T X W c f1) (ha : SE T X W a f2) (hb : SE T X W b f3) : SE T X W (.IfExp c a b pos) (eIf f1 f2 f3) := (pe_ifExp hc ha hb).imp fun σ H Q q => by
  obtain ⟨ρ, e, h, R, E, a⟩ := tE.bind (f := f1) (g := fun e x h1 => match x with | .bl true => f2 e h1 | .bl false => f3 e h1 | _ => .stuck) q
  refine ⟨ρ, e, h, R, E, a.mono fun v H1 ⟨ρ1, e1, d1, h1, b1, a1⟩ => ?_⟩
  obtain ⟨R1, E1, r1⟩ := b1
  split at a1
  · obtain rfl := r1.bl_
    refine ⟨true, rfl, ?_⟩
    refine itT rfl ?_
    exact ⟨ρ1, e1, h1, R1, E1, a1⟩
  · obtain rfl := r1.bl_
    refine ⟨false, rfl, ?_⟩
    refine itF rfl ?_
    exact ⟨ρ1, e1, h1, R1, E1, a1⟩
  · exact a1.elim
end
/-! ### arguments -/
def aNil : En → Hea → Res (List Val) := fun _ h => .ok [] h
def aCons (f : En → Hea → Res Val) (g : En → Hea → Res (List Val)) : En → Hea → Res (List Val) := fun e h => (f e h).bind fun x h1 => (g e h1).bind fun xs h2 => .ok (x :: xs) h2
/-- *e in a display or a call -/
def itemsOf (h : Hea) : Val → Option (List Val)
  | .tup xs => some xs
  | .lst xs => some xs
  | .ref i => lstAt h i
  | _ => none
def aStar (f : En → Hea → Res Val) (g : En → Hea → Res (List Val)) : En → Hea → Res (List Val) := fun e h => (f e h).bind fun x h1 => match itemsOf h1 x with
  | some ys => (g e h1).bind fun xs h2 => .ok (ys ++ xs) h2
  | none => .stuck
section
variable {S : Sy} {W : WX} {σ : St} {H : Hp} {Q : VK}
theorem AftA.bind {ρ : Own} {r : Res (List Val)} {k : List Val → Hea → Res Val} {Q : VK} {W : XK} (a : Aft S ρ H (r.bind k) Q W) :
    AftA S ρ H r (fun v H1 => ∃ ρ1 d h1, Go S ρ H ρ1 H1 ∧ Rel S ρ1 h1 H1 ∧ Reps S ρ1 H1 d v ∧ Aft S ρ1 H1 (k d h1) Q W) W := by
  cases r with
  | ok d h => exact fun ρ1 v H1 s R r => ⟨ρ1, d, h, s, R, r, Aft.later (r := k d h) a s⟩
  | exc c d h => exact a
  | stuck => exact a
theorem AftA.mono {ρ : Own} {r : Res (List Val)} {Q Q' : List V → Hp → Prop} {W : XK} (a : AftA S ρ H r Q W) (h : ∀ v H', Q v H' → Q' v H') : AftA S ρ H r Q' W := by
  cases r with
  | ok d h' => exact fun ρ1 v H1 s R r => h _ _ (a ρ1 v H1 s R r)
  | exc c d h' => exact a
  | stuck => exact a
theorem AftA.later {ρ ρ1 : Own} {H1 : Hp} {r : Res (List Val)} {Q : List V → Hp → Prop} {W : XK} (a : AftA S ρ H r Q W) (s : Go S ρ H ρ1 H1) : AftA S ρ1 H1 r Q W := by
  cases r with
  | ok d h' => exact fun ρ2 v H2 s2 => a ρ2 v H2 (s.trans s2)
  | exc c d h' => exact fun ρ2 v H2 dx s2 => a ρ2 v H2 dx (s.trans s2)
  | stuck => exact a
theorem AftA.bind1 {ρ : Own} {r : Res Val} {k : Val → Hea → Res (List Val)} {Q : List V → Hp → Prop} {W : XK} (a : AftA S ρ H (r.bind k) Q W) :
    Aft S ρ H r (fun v H1 => ∃ ρ1 d h1, Go S ρ H ρ1 H1 ∧ Rel S ρ1 h1 H1 ∧ Rep S ρ1 H1 d v ∧ AftA S ρ1 H1 (k d h1) Q W) W := by
  cases r with
  | ok d h => exact fun ρ1 v H1 s R r => ⟨ρ1, d, h, s, R, r, AftA.later (r := k d h) a s⟩
  | exc c d h => exact a
  | stuck => exact a
theorem AftA.bind2 {ρ : Own} {r : Res (List Val)} {k : List Val → Hea → Res (List Val)} {Q : List V → Hp → Prop} {W : XK} (a : AftA S ρ H (r.bind k) Q W) :
    AftA S ρ H r (fun v H1 => ∃ ρ1 d h1, Go S ρ H ρ1 H1 ∧ Rel S ρ1 h1 H1 ∧ Reps S ρ1 H1 d v ∧ AftA S ρ1 H1 (k d h1) Q W) W := by
  cases r with
  | ok d h => exact fun ρ1 v H1 s R r => ⟨ρ1, d, h, s, R, r, AftA.later (r := k d h) a s⟩
  | exc c d h => exact a
  | stuck => exact a
end
section
variable {T : Tb} {X : Cx} {W : WX} {a : Expr} {es : List Expr} {f : En → Hea → Res Val} {g : En → Hea → Res (List Val)} {pos : Pos}
theorem sa_nil : SA T X W [] aNil := pa_nil.imp fun σ H Q q => by
  obtain ⟨ρ, e, h, R, E, a⟩ := q
  exact a ρ [] H .rfl R .nil
theorem sa_cons (ha : SE T X W a f) (hr : SA T X W es g) (hs : starEach (a :: es) X.env = (false, eval a X.env) :: starEach es X.env := by rfl) : SA T X W (a :: es) (aCons f g) := (pa_cons ha hr hs).imp fun σ H Q q => by
  obtain ⟨ρ, e, h, R, E, a⟩ := q
  refine ⟨ρ, e, h, R, E, (AftA.bind1 a).mono fun v H1 ⟨ρ1, d, h1, s, R1, r, a1⟩ => ⟨ρ1, e, h1, R1, E.go s, (AftA.bind2 a1).mono fun vs H2 ⟨ρ2, ds, h2, s2, R2, r2, a2⟩ => ?_⟩⟩
  exact a2 ρ2 (v :: vs) H2 .rfl R2 (.cons (r.go s2) r2)
theorem items_sq {S : Sy} {ρ : Own} {H : Hp} {h : Hea} {d : Val} {v : V} {ys : List Val} (R : Rel S ρ h H) (r : Rep S ρ H d v) (e : itemsOf h d = some ys) : ∃ p xs, v = .ref p ∧ (SqT S.K H p xs ∨ SqL S.K H p xs) ∧ Reps S ρ H ys xs := by
  unfold itemsOf at e
  split at e
  · cases e
    obtain ⟨p, vs, rfl, s, q⟩ := r.tup_
    exact ⟨p, vs, rfl, .inl s, q⟩
  · cases e
    cases r with
    | lst f h1 h2 => exact ⟨_, _, rfl, .inr (.inl (.inl h1)), h2⟩
  · obtain ⟨p, rfl, ea⟩ := r.ref_
    obtain ⟨vs, s, q⟩ := R.lst e ea
    exact ⟨p, vs, rfl, .inr s, q⟩
  · cases e
theorem sa_star {p : Pos} (ha : SE T X W a f) (hr : SA T X W es g) : SA T X W (.Starred a p :: es) (aStar f g) := (StX.pa_star ha hr).imp fun σ H Q q => by
  obtain ⟨ρ, e, h, R, E, a⟩ := q
  refine ⟨ρ, e, h, R, E, (AftA.bind1 a).mono fun v H1 ⟨ρ1, d, h1, s, R1, r, a1⟩ => ?_⟩
  split at a1
  · rename_i ys hy
    obtain ⟨p, xs, rfl, sq, q⟩ := items_sq R1 r hy
    refine ⟨p, xs, rfl, sq, ρ1, e, h1, R1, E.go s, (AftA.bind2 a1).mono fun vs H2 ⟨ρ2, ds, h2, s2, R2, r2, a2⟩ => ?_⟩
    exact a2 ρ2 (xs ++ vs) H2 .rfl R2 ((q.go s2).app r2)
  · exact a1.elim
end
/-! ### displays -/
def eTup (g : En → Hea → Res (List Val)) : En → Hea → Res Val := fun e h => (g e h).bind fun xs h1 => if xs.length ≤ 16777216 then .ok (.tup xs) h1 else .stuck
def lDisp (g : En → Hea → Res (List Val)) : En → Hea → Res (List Val) := fun e h => (g e h).bind fun xs h1 => if xs.length ≤ 16777216 then .ok xs h1 else .stuck
/-- a made list is kept -/
def eLst (g : En → Hea → Res (List Val)) : En → Hea → Res Val := fun e h => (g e h).bind fun xs h1 => .ok (.lst xs) h1
/-- .. to be changed -/
def eNew (g : En → Hea → Res (List Val)) : En → Hea → Res Val := fun e h => (g e h).bind fun xs h1 => .ok (.ref h1.length) (h1 ++ [.lst xs])
section
variable {S : Sy} {H : Hp}
theorem AftL.mono {ρ : Own} {r : Res (List Val)} {Q Q' : VK} {W : XK} (a : AftL S ρ H r Q W) (h : ∀ v H', Q v H' → Q' v H') : AftL S ρ H r Q' W := by
  cases r with
  | ok d h' => exact fun ρ1 p v H1 s R e n z r k => h _ _ (a ρ1 p v H1 s R e n z r k)
  | exc c d h' => exact a
  | stuck => exact a
theorem Go.none {ρ ρ1 ρ2 : Own} {H1 H2 : Hp} (s : Go S ρ H ρ1 H1) {p : Addr} (n : Off ρ2 p) (s2 : Go S ρ1 H1 ρ2 H2) (z : H1 p = Option.none) : H p = Option.none := by
  cases e : H p with
  | none => rfl
  | some o =>
    have := s.fr p o e fun i w => n i (s2.sub _ _ (s.sub _ _ w))
    rw [z] at this; cases this
theorem Go.adopt {ρ ρ1 : Own} {H1 : Hp} (s : Go S ρ H ρ1 H1) {p : Addr} (z : H p = Option.none) : Go S ρ H (ρ1.add p) H1 := by
  refine ⟨s.sub.trans .app, s.kp, s.fr, fun i a h => ?_, s.hd⟩
  rcases add_some h with h | h
  · exact s.nw i a h
  · subst h
    exact .inr z
theorem AftL.later {ρ ρ1 : Own} {H1 : Hp} {r : Res (List Val)} {Q : VK} {W : XK} (a : AftL S ρ H r Q W) (s : Go S ρ H ρ1 H1) : AftL S ρ1 H1 r Q W := by
  cases r with
  | ok d h' => exact fun ρ2 p v H2 s2 R e n z r k => a ρ2 p v H2 (s.trans s2) R e n (s.none n.1 s2 z) r k
  | exc c d h' => exact fun ρ2 v H2 dx s2 => a ρ2 v H2 dx (s.trans s2)
  | stuck => exact a
/-- behind a made list: another expression goes on with it -/
theorem AftL.bind {ρ : Own} {r : Res (List Val)} {k : List Val → Hea → Res Val} {Q : VK} {W : XK} (a : Aft S ρ H (r.bind k) Q W) :
    AftL S ρ H r (fun v H1 => ∃ ρ1 ds h1 p vs, Go S ρ H ρ1 H1 ∧ Rel S ρ1 h1 H1 ∧ v = .ref p ∧ H1 p = some (.lst vs) ∧ Fz ρ1 p ∧ H p = none ∧ Reps S ρ1 H1 ds vs ∧ Rel S (ρ1.add p) (h1 ++ [.lst ds]) H1 ∧ Aft S ρ H (k ds h1) Q W) W := by
  cases r with
  | ok d h => exact fun ρ1 p v H1 s R e n z r k => ⟨ρ1, d, h, p, v, s, R, rfl, e, n, z, r, k, a⟩
  | exc c d h => exact a
  | stuck => exact a
theorem AftA.bindL {ρ : Own} {r : Res (List Val)} {k : List Val → Hea → Res (List Val)} {Q : VK} {W : XK} (a : AftL S ρ H (r.bind k) Q W) :
    AftA S ρ H r (fun v H1 => ∃ ρ1 d h1, Go S ρ H ρ1 H1 ∧ Rel S ρ1 h1 H1 ∧ Reps S ρ1 H1 d v ∧ AftL S ρ1 H1 (k d h1) Q W) W := by
  cases r with
  | ok d h => exact fun ρ1 v H1 s R r => ⟨ρ1, d, h, s, R, r, AftL.later (r := k d h) a s⟩
  | exc c d h => exact a
  | stuck => exact a
theorem AftL.bind1 {ρ : Own} {r : Res Val} {k : Val → Hea → Res (List Val)} {Q : VK} {W : XK} (a : AftL S ρ H (r.bind k) Q W) :
    Aft S ρ H r (fun v H1 => ∃ ρ1 d h1, Go S ρ H ρ1 H1 ∧ Rel S ρ1 h1 H1 ∧ Rep S ρ1 H1 d v ∧ AftL S ρ1 H1 (k d h1) Q W) W := by
  cases r with
  | ok d h => exact fun ρ1 v H1 s R r => ⟨ρ1, d, h, s, R, r, AftL.later (r := k d h) a s⟩
  | exc c d h => exact a
  | stuck => exact a
/-- a new list that is made now -/
theorem AftL.made {ρ : Own} {h : Hea} {xs : List Val} {vs : List V} {Q : VK} {W : XK} (a : AftL S ρ H (.ok xs h) Q W) (R : Rel S ρ h H) (r : Reps S ρ H xs vs) (p : Addr) (n : H p = none) : Q (.ref p) (upd H p (.lst vs)) :=
  a ρ p vs _ (.side n) (R.side n) upd_same (R.fz n) n (r.mono (.side n)) (R.new n (.lst upd_same (r.mono (.new n))))
end
section
variable {T : Tb} {X : Cx} {W : WX} {a : Expr} {es : List Expr} {f : En → Hea → Res Val} {g : En → Hea → Res (List Val)} {pos : Pos}
theorem se_tup {x1} (h : SA T X W es g) : SE T X W (.Tuple es x1 pos) (eTup g) := (pe_tup h).imp fun σ H Q q => by
  obtain ⟨ρ, e, h, R, E, a⟩ := q
  refine ⟨ρ, e, h, R, E, (AftA.bind a).mono fun vs H1 ⟨ρ1, ds, h1, s, R1, r, a1⟩ => ?_⟩
  have l := r.length
  split at a1
  · exact ⟨by rw [sizeLine_eq]; omega, fun p n => a1.tup R1 r p n⟩
  · exact a1.elim
theorem sl_lst (h : SA T X W es g) : SL T X W (.List es pos) (lDisp g) := (pe_lst h).imp fun σ H Q q => by
  obtain ⟨ρ, e, h, R, E, a⟩ := q
  refine ⟨ρ, e, h, R, E, (AftA.bindL a).mono fun vs H1 ⟨ρ1, ds, h1, s, R1, r, a1⟩ => ?_⟩
  have l := r.length
  split at a1
  · exact ⟨by rw [sizeLine_eq]; omega, fun p n => a1.made R1 r p n⟩
  · exact a1.elim
theorem se_new (h : SL T X W a g) : SE T X W a (eNew g) := h.imp fun σ H Q q => by
  obtain ⟨ρ, e, h, R, E, a⟩ := q
  refine ⟨ρ, e, h, R, E, (AftL.bind a).mono fun v H1 ⟨ρ1, ds, h1, p, vs, s, R1, ev, el, n, z, r, k, a1⟩ => ?_⟩
  subst ev
  exact a1 (ρ1.add p) (.ref p) H1 (s.adopt z) k (.ref (by rw [R1.len]; exact add_at))
theorem se_lst (h : SL T X W a g) : SE T X W a (eLst g) := h.imp fun σ H Q q => by
  obtain ⟨ρ, e, h, R, E, a⟩ := q
  refine ⟨ρ, e, h, R, E, (AftL.bind a).mono fun v H1 ⟨ρ1, ds, h1, p, vs, s, R1, ev, el, n, z, r, k, a1⟩ => ?_⟩
  subst ev
  exact a1 ρ1 (.ref p) H1 s R1 (.lst n el r)
end
end Lad
end
/-! ## LadBi -/
section
set_option maxRecDepth 100000
set_option maxHeartbeats 1000000
namespace Lad
open PySem L2
/-! ### calls of built-ins by values -/
def rC (S : Sy) (g : Hea → List Val → Option Val) : List V → Hp → VK → Prop := fun vs H Q => ∃ ρ h ds, Rel S ρ h H ∧ Reps S ρ H ds vs ∧ Aft S ρ H (opt (g h ds) h) Q (fun _ _ _ => False)
/-- of one list or tuple, by its items -/
def rIt (S : Sy) (g : List Val → Option Val) : List V → Hp → VK → Prop := fun vs H Q => ∃ ρ h xs us p, Rel S ρ h H ∧ vs = [.ref p] ∧ (SqL S.K H p us ∨ SqT S.K H p us) ∧ Reps S ρ H xs us ∧ Aft S ρ H (opt (g xs) h) Q (fun _ _ _ => False)
/-- of one list -/
def rIl (S : Sy) (g : List Val → Option Val) : List V → Hp → VK → Prop := fun vs H Q => ∃ ρ h xs us p, Rel S ρ h H ∧ vs = [.ref p] ∧ SqL S.K H p us ∧ Reps S ρ H xs us ∧ Aft S ρ H (opt (g xs) h) Q (fun _ _ _ => False)
def eCB (g : Hea → List Val → Option Val) (as : En → Hea → Res (List Val)) : En → Hea → Res Val := fun e h => (as e h).bind fun ds h1 => opt (g h1 ds) h1
/-- the argument is a value -/
def eIt (g : List Val → Option Val) (f : En → Hea → Res Val) : En → Hea → Res Val := fun e h => (f e h).bind fun d h1 => match itemsOf h1 d with
  | some xs => opt (g xs) h1
  | none => .stuck
def eIl (g : List Val → Option Val) (f : En → Hea → Res Val) : En → Hea → Res Val := fun e h => (f e h).bind fun d h1 => match lstOf h1 d with
  | some xs => opt (g xs) h1
  | none => .stuck
/-- the argument is a list made for it -/
def eItL (g : List Val → Option Val) (f : En → Hea → Res (List Val)) : En → Hea → Res Val := fun e h => (f e h).bind fun xs h1 => opt (g xs) h1
theorem CallR.imp {X : Cx} {f : Value} {r r' : List V → Hp → VK → Prop} (p : CallR X f r) (h : ∀ vs H Q, r' vs H Q → r vs H Q) : CallR X f r' := fun pins s σ H vs us Q I rx q => p pins s σ H vs us Q I rx (h vs H Q q)
section
variable {T : Tb} {X : Cx} {W : WX} {a : Expr} {es : List Expr} {f : En → Hea → Res Val} {g : En → Hea → Res (List Val)} {pos : Pos}
theorem cb_imp {r : Hea → List Val → Option Val} {σ : St} {H : Hp} {Q : VK} (q : tE (sy T X) W (eCB r g) σ H Q) : tCB (rC (sy T X) r) (tA (sy T X) W g) σ H Q := by
  obtain ⟨ρ, e, h, R, E, a⟩ := q
  exact ⟨ρ, e, h, R, E, (AftA.bind a).mono fun vs H1 ⟨ρ1, ds, h1, s, R1, r1, a1⟩ => ⟨ρ1, h1, ds, R1, r1, a1.noW⟩⟩
theorem it_imp {r : List Val → Option Val} {σ : St} {H : Hp} {Q : VK} (q : tE (sy T X) W (eIt r f) σ H Q) : tCB (rIt (sy T X) r) (tCons (tE (sy T X) W f) tNil) σ H Q := by
  obtain ⟨ρ, e, h, R, E, a⟩ := q
  refine ⟨ρ, e, h, R, E, a.bind.mono fun v H1 ⟨ρ1, d, h1, s, R1, r1, a1⟩ => ?_⟩
  split at a1
  · rename_i xs hx
    obtain ⟨p, us, rfl, sq, rr⟩ := items_sq R1 r1 hx
    exact ⟨ρ1, h1, xs, us, p, R1, rfl, sq.symm, rr, a1.noW⟩
  · exact a1.elim
theorem il_imp {r : List Val → Option Val} {σ : St} {H : Hp} {Q : VK} (q : tE (sy T X) W (eIl r f) σ H Q) : tCB (rIl (sy T X) r) (tCons (tE (sy T X) W f) tNil) σ H Q := by
  obtain ⟨ρ, e, h, R, E, a⟩ := q
  refine ⟨ρ, e, h, R, E, a.bind.mono fun v H1 ⟨ρ1, d, h1, s, R1, r1, a1⟩ => ?_⟩
  split at a1
  · rename_i xs hx
    obtain ⟨p, us, rfl, sq, rr⟩ := R1.lstV r1 hx
    exact ⟨ρ1, h1, xs, us, p, R1, rfl, sq, rr, a1.noW⟩
  · exact a1.elim
theorem itL_imp {r : List Val → Option Val} {σ : St} {H : Hp} {Q : VK} (q : tE (sy T X) W (eItL r g) σ H Q) : tCB (rIt (sy T X) r) (tCons (tL (sy T X) W g) tNil) σ H Q := by
  obtain ⟨ρ, e, h, R, E, a⟩ := q
  refine ⟨ρ, e, h, R, E, (AftL.bind a).mono fun v H1 ⟨ρ1, ds, h1, p, vs, s, R1, ev, el, n, z, r1, _, a1⟩ => ?_⟩
  subst ev
  exact ⟨ρ1, h1, ds, vs, p, R1, rfl, .inl (.inl (.inl el)), r1, (a1.later s).noW⟩
theorem ilL_imp {r : List Val → Option Val} {σ : St} {H : Hp} {Q : VK} (q : tE (sy T X) W (eItL r g) σ H Q) : tCB (rIl (sy T X) r) (tCons (tL (sy T X) W g) tNil) σ H Q := by
  obtain ⟨ρ, e, h, R, E, a⟩ := q
  refine ⟨ρ, e, h, R, E, (AftL.bind a).mono fun v H1 ⟨ρ1, ds, h1, p, vs, s, R1, ev, el, n, z, r1, _, a1⟩ => ?_⟩
  subst ev
  exact ⟨ρ1, h1, ds, vs, p, R1, rfl, .inl (.inl el), r1, (a1.later s).noW⟩
end
def ints? : List Val → Option (List Int)
  | [] => some []
  | .int i :: xs => (ints? xs).map (i :: ·)
  | _ => none
def bls? : List Val → Option (List Bool)
  | [] => some []
  | .bl i :: xs => (bls? xs).map (i :: ·)
  | _ => none
theorem ints_eq : ∀ {xs : List Val} {ns : List Int}, ints? xs = some ns → xs = ns.map Val.int
  | [], ns, e => by cases e; rfl
  | .int i :: xs, ns, e => by
    simp only [ints?] at e
    cases q : ints? xs with
    | none => rw [q] at e; cases e
    | some ms => rw [q] at e; cases e; rw [ints_eq q]; rfl
  | .non :: _, _, e => by cases e
  | .bl _ :: _, _, e => by cases e
  | .str _ :: _, _, e => by cases e
  | .tup _ :: _, _, e => by cases e
  | .ref _ :: _, _, e => by cases e
  | .exn _ _ :: _, _, e => by cases e
  | .lst _ :: _, _, e => by cases e
  | .dic _ _ _ :: _, _, e => by cases e
  | .obj _ _ _ :: _, _, e => by cases e
theorem bls_eq : ∀ {xs : List Val} {ns : List Bool}, bls? xs = some ns → xs = ns.map Val.bl
  | [], ns, e => by cases e; rfl
  | .bl i :: xs, ns, e => by
    simp only [bls?] at e
    cases q : bls? xs with
    | none => rw [q] at e; cases e
    | some ms => rw [q] at e; cases e; rw [bls_eq q]; rfl
  | .non :: _, _, e => by cases e
  | .int _ :: _, _, e => by cases e
  | .str _ :: _, _, e => by cases e
  | .tup _ :: _, _, e => by cases e
  | .ref _ :: _, _, e => by cases e
  | .exn _ _ :: _, _, e => by cases e
  | .lst _ :: _, _, e => by cases e
  | .dic _ _ _ :: _, _, e => by cases e
  | .obj _ _ _ :: _, _, e => by cases e
theorem Reps.bls {S : Sy} {ρ : Own} {H : Hp} : ∀ {ns : List Bool} {vs : List V}, Reps S ρ H (ns.map Val.bl) vs → vs = ns.map V.bl
  | [], _, .nil => rfl
  | n :: ns, _, .cons r t => by
    cases r
    rw [Reps.bls t]
    rfl
def iMax : List Int → Option Int
  | [] => none
  | n :: ns => some (ns.foldl (fun a b => if b > a then b else a) n)
def iMin : List Int → Option Int
  | [] => none
  | n :: ns => some (ns.foldl (fun a b => if b < a then b else a) n)
theorem foldMax : ∀ (ns : List Int) (n : Int), (ns.foldl (fun a b => if b > a then b else a) n = n ∨ ns.foldl (fun a b => if b > a then b else a) n ∈ ns) ∧ n ≤ ns.foldl (fun a b => if b > a then b else a) n ∧ ∀ y ∈ ns, y ≤ ns.foldl (fun a b => if b > a then b else a) n
  | [], n => ⟨.inl rfl, Int.le_refl _, fun _ h => nomatch h⟩
  | m :: ns, n => by
    obtain ⟨h1, h2, h3⟩ := foldMax ns (if m > n then m else n)
    simp only [List.foldl_cons]
    by_cases c : m > n
    · rw [if_pos c] at h1 h2 h3 ⊢
      refine ⟨.inr ?_, by omega, fun y hy => ?_⟩
      · rcases h1 with e | e
        · rw [e]; exact List.mem_cons_self
        · exact List.mem_cons_of_mem _ e
      · rcases List.mem_cons.mp hy with rfl | hy
        · exact h2
        · exact h3 y hy
    · rw [if_neg c] at h1 h2 h3 ⊢
      refine ⟨?_, h2, fun y hy => ?_⟩
      · rcases h1 with e | e
        · exact .inl e
        · exact .inr (List.mem_cons_of_mem _ e)
      · rcases List.mem_cons.mp hy with rfl | hy
        · omega
        · exact h3 y hy
theorem foldMin : ∀ (ns : List Int) (n : Int), (ns.foldl (fun a b => if b < a then b else a) n = n ∨ ns.foldl (fun a b => if b < a then b else a) n ∈ ns) ∧ ns.foldl (fun a b => if b < a then b else a) n ≤ n ∧ ∀ y ∈ ns, ns.foldl (fun a b => if b < a then b else a) n ≤ y
  | [], n => ⟨.inl rfl, Int.le_refl _, fun _ h => nomatch h⟩
  | m :: ns, n => by
    obtain ⟨h1, h2, h3⟩ := foldMin ns (if m < n then m else n)
    simp only [List.foldl_cons]
    by_cases c : m < n
    · rw [if_pos c] at h1 h2 h3 ⊢
      refine ⟨.inr ?_, by omega, fun y hy => ?_⟩
      · rcases h1 with e | e
        · rw [e]; exact List.mem_cons_self
        · exact List.mem_cons_of_mem _ e
      · rcases List.mem_cons.mp hy with rfl | hy
        · exact h2
        · exact h3 y hy
    · rw [if_neg c] at h1 h2 h3 ⊢
      refine ⟨?_, h2, fun y hy => ?_⟩
      · rcases h1 with e | e
        · exact .inl e
        · exact .inr (List.mem_cons_of_mem _ e)
      · rcases List.mem_cons.mp hy with rfl | hy
        · omega
        · exact h3 y hy
theorem iMax_ok {ns : List Int} {m : Int} (e : iMax ns = some m) : m ∈ ns ∧ ∀ y ∈ ns, y ≤ m := by
  cases ns with
  | nil => cases e
  | cons n ns =>
    cases e
    obtain ⟨h1, h2, h3⟩ := foldMax ns n
    refine ⟨?_, fun y hy => ?_⟩
    · rcases h1 with e | e
      · rw [e]; exact List.mem_cons_self
      · exact List.mem_cons_of_mem _ e
    · rcases List.mem_cons.mp hy with rfl | hy
      · exact h2
      · exact h3 y hy
theorem iMin_ok {ns : List Int} {m : Int} (e : iMin ns = some m) : m ∈ ns ∧ ∀ y ∈ ns, m ≤ y := by
  cases ns with
  | nil => cases e
  | cons n ns =>
    cases e
    obtain ⟨h1, h2, h3⟩ := foldMin ns n
    refine ⟨?_, fun y hy => ?_⟩
    · rcases h1 with e | e
      · rw [e]; exact List.mem_cons_self
      · exact List.mem_cons_of_mem _ e
    · rcases List.mem_cons.mp hy with rfl | hy
      · exact h2
      · exact h3 y hy
def gLen (xs : List Val) : Option Val := some (.int xs.length)
def gAll (xs : List Val) : Option Val := (bls? xs).map fun bs => .bl (bs.all id)
def gAny (xs : List Val) : Option Val := (bls? xs).map fun bs => .bl (bs.any id)
def gSum (xs : List Val) : Option Val := (ints? xs).map fun ns => .int ns.sum
def gMax (xs : List Val) : Option Val := ((ints? xs).bind iMax).map .int
def gMin (xs : List Val) : Option Val := ((ints? xs).bind iMin).map .int
def gTuple (xs : List Val) : Option Val := some (.tup xs)
def gAbs : Hea → List Val → Option Val
  | _, [.int i] => some (.int (if i < 0 then -i else i))
  | _, _ => none
def gMax2 : Hea → List Val → Option Val
  | _, [.int i, .int j] => some (.int (if j > i then j else i))
  | _, _ => none
def gMin2 : Hea → List Val → Option Val
  | _, [.int i, .int j] => some (.int (if j < i then j else i))
  | _, _ => none
def gInt : Hea → List Val → Option Val
  | _, [.int i] => some (.int i)
  | _, [.bl k] => some (.int (if k then 1 else 0))
  | _, _ => none
def gRepr : Hea → List Val → Option Val
  | _, [.int i] => if i.natAbs.log2 < 1920 then some (.str (toString i)) else none
  | _, _ => none
section
variable {T : Tb} {X : Cx}
theorem g_len : CallR X (.builtin "len") (rIt (sy T X) gLen) := CallR.imp call_len_seq fun vs H Q h => by
  obtain ⟨ρ, h, xs, us, p, R, rfl, sq, r, a⟩ := h
  refine ⟨p, us, rfl, sq, ?_⟩
  rw [← r.length]
  exact a.same R (.int _)
theorem g_all (hc : X.calm = true) : CallR X (.builtin "all") (rIl (sy T X) gAll) := CallR.imp (cr_all hc) fun vs H Q h => by
  obtain ⟨ρ, h, xs, us, p, R, rfl, sq, r, a⟩ := h
  unfold gAll at a
  cases e : bls? xs with
  | none => rw [e] at a; exact a.elim
  | some bs =>
    rw [e] at a
    obtain rfl := bls_eq e
    obtain rfl := r.bls
    exact ⟨p, bs, rfl, sq, Aft.same (d := .bl _) a R (.bl _)⟩
theorem g_any (hc : X.calm = true) : CallR X (.builtin "any") (rIl (sy T X) gAny) := CallR.imp (cr_any hc) fun vs H Q h => by
  obtain ⟨ρ, h, xs, us, p, R, rfl, sq, r, a⟩ := h
  unfold gAny at a
  cases e : bls? xs with
  | none => rw [e] at a; exact a.elim
  | some bs =>
    rw [e] at a
    obtain rfl := bls_eq e
    obtain rfl := r.bls
    exact ⟨p, bs, rfl, sq, Aft.same (d := .bl _) a R (.bl _)⟩
theorem g_sum (hc : X.calm = true) : CallR X (.builtin "sum") (rIl (sy T X) gSum) := CallR.imp (cr_sum hc) fun vs H Q h => by
  obtain ⟨ρ, h, xs, us, p, R, rfl, sq, r, a⟩ := h
  unfold gSum at a
  cases e : ints? xs with
  | none => rw [e] at a; exact a.elim
  | some bs =>
    rw [e] at a
    obtain rfl := ints_eq e
    obtain rfl := r.ints
    exact ⟨p, bs, rfl, sq, Aft.same (d := .int _) a R (.int _)⟩
theorem g_max (hc : X.calm = true) : CallR X (.builtin "max") (rIl (sy T X) gMax) := CallR.imp (cr_max hc) fun vs H Q h => by
  obtain ⟨ρ, h, xs, us, p, R, rfl, sq, r, a⟩ := h
  unfold gMax at a
  cases e : ints? xs with
  | none => rw [e] at a; exact a.elim
  | some bs =>
    rw [e] at a
    cases e2 : iMax bs with
    | none => simp [e2, opt, Aft] at a
    | some m =>
      simp only [Option.bind_some, e2, Option.map_some] at a
      obtain rfl := ints_eq e
      obtain rfl := r.ints
      obtain ⟨h1, h2⟩ := iMax_ok e2
      refine ⟨p, bs, rfl, sq, List.length_pos_of_mem h1, fun m' h1' h2' => ?_⟩
      have : m' = m := Int.le_antisymm (h2 _ h1') (h2' _ h1)
      subst this
      exact Aft.same (d := .int _) a R (.int _)
theorem g_min (hc : X.calm = true) : CallR X (.builtin "min") (rIl (sy T X) gMin) := CallR.imp (cr_min hc) fun vs H Q h => by
  obtain ⟨ρ, h, xs, us, p, R, rfl, sq, r, a⟩ := h
  unfold gMin at a
  cases e : ints? xs with
  | none => rw [e] at a; exact a.elim
  | some bs =>
    rw [e] at a
    cases e2 : iMin bs with
    | none => simp [e2, opt, Aft] at a
    | some m =>
      simp only [Option.bind_some, e2, Option.map_some] at a
      obtain rfl := ints_eq e
      obtain rfl := r.ints
      obtain ⟨h1, h2⟩ := iMin_ok e2
      refine ⟨p, bs, rfl, sq, List.length_pos_of_mem h1, fun m' h1' h2' => ?_⟩
      have : m' = m := Int.le_antisymm (h2' _ h1) (h2 _ h1')
      subst this
      exact Aft.same (d := .int _) a R (.int _)
theorem g_tuple : CallR X (.type "tuple") (rIt (sy T X) gTuple) := CallR.imp call_tuple_of fun vs H Q h => by
  obtain ⟨ρ, h, xs, us, p, R, rfl, sq, r, a⟩ := h
  refine ⟨p, us, rfl, ?_⟩
  rcases sq with sq | sq
  · exact .inl ⟨sq, fun l n => Aft.tup a R r l n⟩
  · exact .inr ⟨sq, Aft.same a R (.tup sq r)⟩
theorem g_abs : CallR X (.builtin "abs") (rC (sy T X) gAbs) := CallR.imp call_abs fun vs H Q h => by
  obtain ⟨ρ, h, ds, R, r, a⟩ := h
  unfold gAbs at a
  split at a
  · obtain rfl := Reps.ints (ns := [_]) r
    exact ⟨_, rfl, Aft.same (d := .int _) a R (.int _)⟩
  · exact a.elim
theorem g_max2 (hc : X.calm = true) : CallR X (.builtin "max") (rC (sy T X) gMax2) := CallR.imp (call_max2 hc) fun vs H Q h => by
  obtain ⟨ρ, h, ds, R, r, a⟩ := h
  unfold gMax2 at a
  split at a
  · obtain rfl := Reps.ints (ns := [_, _]) r
    exact ⟨_, _, rfl, Aft.same (d := .int _) a R (.int _)⟩
  · exact a.elim
theorem g_min2 (hc : X.calm = true) : CallR X (.builtin "min") (rC (sy T X) gMin2) := CallR.imp (call_min2 hc) fun vs H Q h => by
  obtain ⟨ρ, h, ds, R, r, a⟩ := h
  unfold gMin2 at a
  split at a
  · obtain rfl := Reps.ints (ns := [_, _]) r
    exact ⟨_, _, rfl, Aft.same (d := .int _) a R (.int _)⟩
  · exact a.elim
theorem g_int : CallR X (.type "int") (rC (sy T X) gInt) := CallR.imp call_int1 fun vs H Q h => by
  obtain ⟨ρ, h, ds, R, r, a⟩ := h
  unfold gInt at a
  split at a
  · obtain rfl := Reps.ints (ns := [_]) r
    exact .inl ⟨_, rfl, Aft.same (d := .int _) a R (.int _)⟩
  · obtain rfl := Reps.bls (ns := [_]) r
    exact .inr ⟨_, rfl, Aft.same (d := .int _) a R (.int _)⟩
  · exact a.elim
theorem g_repr : CallR X (.builtin "repr") (rC (sy T X) gRepr) := CallR.imp SkE.call_repr_int fun vs H Q h => by
  obtain ⟨ρ, h, ds, R, r, a⟩ := h
  unfold gRepr at a
  split at a
  · split at a
    · rename_i hl
      obtain rfl := Reps.ints (ns := [_]) r
      exact ⟨_, rfl, hl, Aft.same (d := .str _) a R (.str _)⟩
    · exact a.elim
  · exact a.elim
end
/-! ### isinstance with built-in classes -/
inductive BT where
  | int | bool | str | tuple | list | dict
def BT.nm : BT → String
  | .int => "int" | .bool => "bool" | .str => "str" | .tuple => "tuple" | .list => "list" | .dict => "dict"
inductive TK where
  | non | bool | int | str | tuple | list | dict
def TK.nm : TK → String
  | .non => "NoneType" | .bool => "bool" | .int => "int" | .str => "str" | .tuple => "tuple" | .list => "list" | .dict => "dict"
def isTB : TK → BT → Bool
  | .bool, .bool | .bool, .int | .int, .int | .str, .str | .tuple, .tuple | .list, .list | .dict, .dict => true
  | _, _ => false
theorem kit_tb (k : TK) (b : BT) : kitB k.nm b.nm = some (isTB k b) := by
  cases k <;> cases b <;> decide +kernel
def tyK (h : Hea) : Val → Option TK
  | .non => some .non
  | .bl _ => some .bool
  | .int _ => some .int
  | .str _ => some .str
  | .tup _ => some .tuple
  | .lst _ => some .list
  | .dic _ _ _ => some .dict
  | .obj _ _ _ => none
  | .ref i => match h[i]? with
    | some (.lst _) => some .list
    | some (.fro _) => some .list
    | some (.dcK _) => some .dict
    | some (.dcT _) => some .dict
    | _ => none
  | .exn _ _ => none
theorem tyK_ok {S : Sy} {ρ : Own} {H : Hp} {h : Hea} {d : Val} {v : V} {k : TK} (R : Rel S ρ h H) (r : Rep S ρ H d v) (e : tyK h d = some k) : TyX S.K H v (.type k.nm) := by
  cases r with
  | non => cases e; exact .base .non
  | bl b => cases e; exact .base (.bl b)
  | int b => cases e; exact .base (.int b)
  | str b => cases e; exact .base (.str b)
  | tup s q =>
    cases e
    rcases s with (s | ⟨o, s⟩) | ⟨o, its, n, s, c, _⟩
    · exact .base (.tup s)
    · exact .fTuple s
    · exact .kTuple s c
  | lst f h1 h2 => cases e; exact .base (.lst h1)
  | dicK f h1 _ _ _ => cases e; exact .base (.dK h1)
  | dicT f h1 _ _ _ => cases e; exact .base (.dT h1)
  | obj => cases e
  | ref ea =>
    unfold tyK at e
    dsimp only at e
    split at e
    · rename_i xs hx
      cases e
      have o := R.ob _ _ _ hx ea
      cases o with
      | lst h1 h2 => exact .base (.lst h1)
    · rename_i xs hx
      cases e
      have o := R.ob _ _ _ hx ea
      cases o with
      | fro h1 => exact .base (.frz h1)
    · rename_i xs hx
      cases e
      have o := R.ob _ _ _ hx ea
      cases o with
      | dcK h1 h2 => exact .base (.dK h1)
    · rename_i xs hx
      cases e
      have o := R.ob _ _ _ hx ea
      cases o with
      | dcT h1 h2 => exact .base (.dT h1)
    · cases e
  | exn h1 h2 r => cases e
def oIsi (ts : List BT) (h : Hea) (d : Val) : Option Val := (tyK h d).map fun k => .bl (ts.any (isTB k))
section
variable {T : Tb} {X : Cx} {W : WX} {a : Expr} {f : En → Hea → Res Val} {pos p p1 p2 p3 : Pos}
theorem se_isi {b : BT} {x : Str} (hg : Gl X "isinstance") (hm : X.mg "isinstance" = none) (ha : SE T X W a f) (hb : PE X (.Name x p1) (tC (.ty b.nm))) (hs : starEach (a :: [.Name x p1]) X.env = (false, eval a X.env) :: starEach [.Name x p1] X.env := by rfl) :
    SE T X W (.Call (.Name "isinstance" p) [a, .Name x p1] [] pos) (eUn (oIsi [b]) f) := by
  refine PE.imp (pe_callB call_isi hg hm (by decide +kernel) (pa_cons ha (pa_cons hb pa_nil) hs) (he := hs)) fun σ H Q q => ?_
  obtain ⟨ρ, e, h, R, E, a⟩ := tE.bind (f := f) (g := fun e x h1 => opt (oIsi [b] h1 x) h1) q
  refine ⟨ρ, e, h, R, E, a.mono fun v H1 ⟨ρ1, e1, d1, h1, b1, a1⟩ => ?_⟩
  obtain ⟨R1, E1, r1⟩ := b1
  show rIsi X.K [v, .ty b.nm] H1 Q
  unfold oIsi at a1
  cases hk : tyK h1 d1 with
  | none => rw [hk] at a1; exact a1.elim
  | some k =>
    rw [hk] at a1
    refine ⟨v, _, _, _, isTB k b, rfl, .ty _, tyK_ok R1 r1 hk, kit_ty (kit_tb k b), ?_⟩
    have q := Aft.same (d := .bl _) a1 R1 (.bl _)
    simpa using q
theorem kitAny_tb {K : PySem.W.Frag} (k : TK) : ∀ bs : List BT, PySem.W.kitAny K (.type k.nm) (bs.map fun b => Value.type b.nm) = some (bs.any (isTB k))
  | [] => rfl
  | b :: bs => by
    have h := kit_ty (K := K) (kit_tb k b)
    simp only [List.map_cons, PySem.W.kitAny, h, List.any_cons]
    cases isTB k b with
    | true => rfl
    | false => simpa using kitAny_tb k bs
/-- isinstance(x, (A, B)) -/
theorem se_isi2 {b c : BT} {x y : Str} {x1} (hg : Gl X "isinstance") (hm : X.mg "isinstance" = none) (ha : SE T X W a f) (hb : PE X (.Name x p1) (tC (.ty b.nm))) (hc : PE X (.Name y p2) (tC (.ty c.nm)))
    (hs : starEach (a :: [.Tuple [.Name x p1, .Name y p2] x1 p3]) X.env = (false, eval a X.env) :: starEach [.Tuple [.Name x p1, .Name y p2] x1 p3] X.env := by rfl) :
    SE T X W (.Call (.Name "isinstance" p) [a, .Tuple [.Name x p1, .Name y p2] x1 p3] [] pos) (eUn (oIsi [b, c]) f) := by
  refine PE.imp (pe_callB call_isiT hg hm (by decide +kernel) (pa_cons ha (pa_cons (pe_tup (pa_cons hb (pa_cons hc pa_nil))) pa_nil) hs) (he := hs)) fun σ H Q q => ?_
  obtain ⟨ρ, e, h, R, E, a⟩ := tE.bind (f := f) (g := fun e x h1 => opt (oIsi [b, c] h1 x) h1) q
  refine ⟨ρ, e, h, R, E, a.mono fun v H1 ⟨ρ1, e1, d1, h1, b1, a1⟩ => ?_⟩
  obtain ⟨R1, E1, r1⟩ := b1
  refine ⟨by rw [sizeLine_eq]; exact (by decide : 2 ≤ 16777216), fun tp n => ?_⟩
  show rIsiT X.K [v, .ref tp] _ Q
  unfold oIsi at a1
  cases hk : tyK h1 d1 with
  | none => rw [hk] at a1; exact a1.elim
  | some k =>
    rw [hk] at a1
    have kp : Mv (sy T X) ρ1 H1 ρ1 (upd H1 tp (.tup [.ty b.nm, .ty c.nm])) := .side n
    refine ⟨v, tp, [.ty b.nm, .ty c.nm], _, [b, c].map fun b => Value.type b.nm, [b, c].any (isTB k), rfl, upd_same, .cons (.ty _) (.cons (.ty _) .nil), tyK_ok (R1.side n) (r1.mono kp) hk, kitAny_tb k _, ?_⟩
    exact a1 ρ1 _ _ (.side n) (R1.side n) (.bl _)
end
/-! ### subscripts -/
def oIx (h : Hea) (a b : Val) : Option Val := match b with
  | .int i => match itemsOf h a with
    | some xs => atI xs i
    | none => match a with
      | .str z => if z.length ≤ 16777216 then (atI z.cps.toList i).map fun c => .str ⟨#[c]⟩ else none
      | _ => none
  | _ => none
theorem Reps.atI {S : Sy} {ρ : Own} {H : Hp} {xs : List Val} {vs : List V} {i : Int} {d : Val} (r : Reps S ρ H xs vs) (e : atI xs i = some d) : ∃ v, L2.atI vs i = some v ∧ Rep S ρ H d v := by
  unfold L2.atI at e ⊢
  rw [← r.length]
  cases q : ixN xs.length i with
  | none => rw [q] at e; cases e
  | some j =>
    rw [q] at e
    exact r.get e
section
variable {T : Tb} {X : Cx} {W : WX} {a b : Expr} {f1 f2 : En → Hea → Res Val} {pos p p1 p2 p3 : Pos}
theorem IxR.imp {r r' : R2} (p : IxR X r) (h : ∀ x y H Q, r' x y H Q → r x y H Q) : IxR X r' := fun value slice pins s σ H x y v u Q I rx ry q e => p value slice pins s σ H x y v u Q I rx ry (h x y H Q q) e
theorem o_ix : IxR X (rB (sy T X) oIx) := IxR.imp (IxR.or ix_list (IxR.or ix_tup ix_str)) fun x y H Q h => by
  obtain ⟨ρ, h, d1, d2, R, r1, r2, a⟩ := h
  cases d2 with
  | int i =>
    obtain rfl := r2.int_
    simp only [oIx] at a
    cases hx : itemsOf h d1 with
    | some xs =>
      rw [hx] at a
      obtain ⟨p, us, rfl, sq, rr⟩ := items_sq R r1 hx
      cases e : L2.atI xs i with
      | none => simp only [e] at a; exact a.elim
      | some d =>
        simp only [e] at a
        obtain ⟨v, e1, r⟩ := rr.atI e
        rcases sq with sq | sq
        · exact .inr (.inl ⟨p, us, i, v, rfl, rfl, sq, e1, Aft.same (d := d) a R r⟩)
        · exact .inl ⟨p, us, i, v, rfl, rfl, sq, e1, Aft.same (d := d) a R r⟩
    | none =>
      rw [hx] at a
      cases d1 with
      | str z =>
        obtain rfl := r1.str_
        simp only at a
        split at a
        · rename_i hz
          cases e : L2.atI z.cps.toList i with
          | none => rw [e] at a; exact a.elim
          | some c =>
            rw [e] at a
            exact .inr (.inr ⟨z, i, c, rfl, rfl, by rw [sizeLine_eq]; exact hz, e, Aft.same (d := .str _) a R (.str _)⟩)
        · exact a.elim
      | _ => exact a.elim
  | _ => exact a.elim
theorem se_ix (ha : SE T X W a f1) (hb : SE T X W b f2) (hs : PlainIx b := by intro _ _; rfl) : SE T X W (.Subscript a b pos) (eBin oIx f1 f2) := (pe_ix o_ix ha hb hs).imp fun σ H Q q => bin_imp q
end
end Lad
end
/-! ## LadSt -/
section
set_option maxRecDepth 100000
set_option maxHeartbeats 1000000
namespace Lad
open PySem L2
abbrev SSt (T : Tb) (X : Cx) (W : WX) (s : Stmt) (f : En → Hea → SRes) : Prop := PS X s (tS (sy T X) W f)
abbrev SSs (T : Tb) (X : Cx) (W : WX) (s : List Stmt) (f : En → Hea → SRes) : Prop := PSs X s (tS (sy T X) W f)
/-! ### statements -/
def ofR {α : Type} (r : Res α) (e : En) (k : α → Hea → SRes) : SRes := match r with
  | .ok a h => k a h
  | .exc c d h => .exc c d e h
  | .stuck => .stuck
section
variable {S : Sy} {W : WX} {H : Hp} {D : Ends} {ρ : Own} {σ : St} {e : En}
theorem AftS.ofR {r : Res Val} {k : Val → Hea → SRes} (a : AftS S ρ H (ofR r e k) D W) (E : ER S ρ H e σ) :
    Aft S ρ H r (fun v H1 => ∃ ρ1 d h1, Go S ρ H ρ1 H1 ∧ Rel S ρ1 h1 H1 ∧ Rep S ρ1 H1 d v ∧ ER S ρ1 H1 e σ ∧ AftS S ρ1 H1 (k d h1) D W) (fun c d H' => W c d σ H') := by
  cases r with
  | ok d h => exact fun ρ1 v H1 s R r => ⟨ρ1, d, h, s, R, r, E.go s, AftS.later (r := k d h) a s⟩
  | exc c d h => exact fun ρ1 v H1 dx s R r x => a ρ1 v σ H1 dx s R r (E.go s) x
  | stuck => exact a
theorem AftS.ofA {r : Res (List Val)} {k : List Val → Hea → SRes} (a : AftS S ρ H (Lad.ofR r e k) D W) (E : ER S ρ H e σ) :
    AftA S ρ H r (fun v H1 => ∃ ρ1 d h1, Go S ρ H ρ1 H1 ∧ Rel S ρ1 h1 H1 ∧ Reps S ρ1 H1 d v ∧ ER S ρ1 H1 e σ ∧ AftS S ρ1 H1 (k d h1) D W) (fun c d H' => W c d σ H') := by
  cases r with
  | ok d h => exact fun ρ1 v H1 s R r => ⟨ρ1, d, h, s, R, r, E.go s, AftS.later (r := k d h) a s⟩
  | exc c d h => exact fun ρ1 v H1 dx s R r x => a ρ1 v σ H1 dx s R r (E.go s) x
  | stuck => exact a
end
def sNil : En → Hea → SRes := fun e h => .nx e h
def sSeq (f g : En → Hea → SRes) : En → Hea → SRes := fun e h => match f e h with
  | .nx e1 h1 => g e1 h1
  | r => r
def sSet (i : Nat) (f : En → Hea → Res Val) : En → Hea → SRes := fun e h => ofR (f e h) e fun d h1 => .nx (e.set i (some d)) h1
def sRet (f : En → Hea → Res Val) : En → Hea → SRes := fun e h => ofR (f e h) e fun d h1 => .rt d h1
def sRetN : En → Hea → SRes := fun _ h => .rt .non h
def sEx (f : En → Hea → Res Val) : En → Hea → SRes := fun e h => ofR (f e h) e fun _ h1 => .nx e h1
def sIf (f : En → Hea → Res Val) (s1 s2 : En → Hea → SRes) : En → Hea → SRes := fun e h => ofR (f e h) e fun d h1 => match d with
  | .bl true => s1 e h1
  | .bl false => s2 e h1
  | _ => .stuck
/-- targets -/
def gN (i : Nat) : Val → En → Option En := fun v e => some (e.set i (some v))
def setAll : List Nat → List Val → En → Option En
  | [], [], e => some e
  | i :: is, v :: vs, e => setAll is vs (e.set i (some v))
  | _, _, _ => none
def gT (is : List Nat) : Val → En → Option En := fun v e => match v with
  | .tup xs => setAll is xs e
  | _ => none
def sAsg (g : Val → En → Option En) (f : En → Hea → Res Val) : En → Hea → SRes := fun e h => ofR (f e h) e fun d h1 => match g d e with
  | some e1 => .nx e1 h1
  | none => .stuck
/-- a, b, .. = x, y, ..: a display -/
def sPar (is : List Nat) (f : En → Hea → Res (List Val)) : En → Hea → SRes := fun e h => ofR (f e h) e fun ds h1 => match setAll is ds e with
  | some e1 => .nx e1 h1
  | none => .stuck
/-- targets by HandS's readings -/
def GOk (S : Sy) (vs : List Nat) (g : TG) (b : Val → En → Option En) : Prop :=
  ∀ (ρ : Own) (H : Hp) (h : Hea) (e : En) (σ : St) (d : Val) (v : V) (e' : En) (Q : St → Hp → Prop), Rel S ρ h H → ER S ρ H e σ → Rep S ρ H d v → b d e = some e' → (∀ σ', ER S ρ H e' σ' → wipe σ' vs = wipe σ vs → Q σ' H) → g v σ H Q
theorem wipe_set {σ : St} {i : Nat} {o : Option V} : ∀ {vs : List Nat}, i ∈ vs → wipe (σ.set i o) vs = wipe σ vs
  | v :: vs, h => by
    unfold wipe
    by_cases hm : i ∈ vs
    · rw [wipe_set hm]
    · have e : i = v := by
        rcases List.mem_cons.mp h with z | z
        · exact z
        · exact absurd z hm
      subst e
      have key : ∀ ws : List Nat, i ∉ ws → (wipe (σ.set i o) ws).set i none = (wipe σ ws).set i none := by
        intro ws
        induction ws with
        | nil => intro _; show (σ.set i o).set i none = σ.set i none; rw [List.set_set]
        | cons w ws ih =>
          intro hw
          have h1 : i ≠ w := fun z => hw (by rw [z]; exact List.mem_cons_self)
          have h2 : i ∉ ws := fun z => hw (List.mem_cons_of_mem _ z)
          show ((wipe (σ.set i o) ws).set w none).set i none = ((wipe σ ws).set w none).set i none
          rw [List.set_comm _ _ (Ne.symm h1), ih h2, List.set_comm _ _ h1]
      exact key vs hm
theorem gok_name {S : Sy} {i : Nat} {vs : List Nat} (hi : i ∈ vs) : GOk S vs (gName i) (gN i) := fun ρ H h e σ d v e' Q R E r b q => by
  cases b
  exact q _ (E.set r i) (wipe_set hi)
def gsNames : List Nat → TGs
  | [] => gNil
  | i :: is => gCons (gName i) (gsNames is)
theorem gs_names {S : Sy} {ρ : Own} {H : Hp} {vs : List Nat} : ∀ (is : List Nat) (e : En) (σ : St) (ds : List Val) (us : List V) (e' : En) (Q : St → Hp → Prop), (∀ i ∈ is, i ∈ vs) → ER S ρ H e σ → Reps S ρ H ds us → setAll is ds e = some e' → (∀ σ', ER S ρ H e' σ' → wipe σ' vs = wipe σ vs → Q σ' H) → gsNames is us σ H Q
  | [], e, σ, [], [], e', Q, _, E, .nil, b, q => by cases b; exact ⟨rfl, q _ E rfl⟩
  | [], e, σ, d :: ds, u :: us, e', Q, _, E, .cons _ _, b, q => by cases b
  | i :: is, e, σ, [], [], e', Q, _, E, .nil, b, q => by cases b
  | i :: is, e, σ, d :: ds, u :: us, e', Q, hv, E, .cons r t, b, q => by
    refine ⟨u, us, rfl, ?_⟩
    refine gs_names is _ _ ds us e' Q (fun j hj => hv j (List.mem_cons_of_mem _ hj)) (E.set r i) t b fun σ' E' w => q σ' E' ?_
    rw [w, wipe_set (hv i List.mem_cons_self)]
theorem setAll_len : ∀ {is : List Nat} {ds : List Val} {e e' : En}, setAll is ds e = some e' → ds.length = is.length
  | [], [], _, _, _ => rfl
  | _ :: is, _ :: ds, _, _, h => congrArg (· + 1) (setAll_len (is := is) h)
  | [], _ :: _, _, _, h => by cases h
  | _ :: _, [], _, _, h => by cases h
theorem gok_tup {S : Sy} {is vs : List Nat} (hi : ∀ i ∈ is, i ∈ vs) : GOk S vs (gTup S.K is.length (gsNames is)) (gT is) := fun ρ H h e σ d v e' Q R E r b q => by
  unfold gT at b
  split at b
  · obtain ⟨a, us, rfl, sq, rr⟩ := r.tup_
    refine ⟨a, us, rfl, sq, ?_, gs_names is e σ _ us e' Q hi E rr b q⟩
    rw [← rr.length]
    exact setAll_len b
  · cases b
section
variable {T : Tb} {X : Cx} {W : WX} {a b c : Expr} {f : En → Hea → Res Val} {s : Stmt} {ss s1 s2 : List Stmt} {g g1 g2 : En → Hea → SRes} {pos : Pos}
theorem ss_nil : SSs T X W [] sNil := pss_nil.imp fun D σ H q => by
  obtain ⟨ρ, e, h, R, E, a⟩ := q
  exact a ρ σ H .rfl R E
theorem ss_one (h : SSt T X W s g) : SSs T X W [s] g := pss_one h
theorem ss_cons (h1 : SSt T X W s g1) (h2 : SSs T X W ss g2) : SSs T X W (s :: ss) (sSeq g1 g2) := (pss_cons h1 h2).imp fun D σ H q => by
  obtain ⟨ρ, e, h, R, E, a⟩ := q
  refine ⟨ρ, e, h, R, E, ?_⟩
  unfold sSeq at a
  revert a
  cases g1 e h with
  | nx e1 h1 => exact fun a ρ1 σ1 H1 s R1 E1 => ⟨ρ1, e1, h1, R1, E1, AftS.later (r := g2 e1 h1) a s⟩
  | rt v h1 => exact id
  | bk e1 h1 => exact id
  | ct e1 h1 => exact id
  | exc c d e1 h1 => exact id
  | stuck => exact id
theorem st_set {i : Nat} {x : Str} {pos' : Pos} (hN : X.N.Nodup) (hi : X.N[i]? = some x) (hx : Loc X.env.scope x) (ha : SE T X W a f) (hs : swapsWith a (some (.Name x pos')) pos.line X.env = pure false := by rfl)
    (hf : X.fn x = true ∨ X.env.scope.names.lookup x = some .local := by first | exact .inl rfl | exact .inr rfl) : SSt T X W (.Assign [.Name x pos'] a pos) (sSet i f) := (ps_set hN hi hx ha hs hf).imp fun D σ H q => by
  obtain ⟨ρ, e, h, R, E, a⟩ := q
  exact ⟨ρ, e, h, R, E, (a.ofR E).mono fun v H1 ⟨ρ1, d, h1, s, R1, r, E1, a1⟩ => a1 ρ1 _ H1 .rfl R1 (E1.set r i)⟩
theorem st_ret (ha : SE T X W a f) : SSt T X W (.Return (some a) pos) (sRet f) := (ps_ret ha).imp fun D σ H q => by
  obtain ⟨ρ, e, h, R, E, a⟩ := q
  exact ⟨ρ, e, h, R, E, (a.ofR E).mono fun v H1 ⟨ρ1, d, h1, s, R1, r, E1, a1⟩ => a1 ρ1 _ H1 .rfl R1 r⟩
theorem st_retN : SSt T X W (.Return none pos) sRetN := ps_retN.imp fun D σ H q => by
  obtain ⟨ρ, e, h, R, E, a⟩ := q
  exact a ρ _ H .rfl R .non
theorem st_ex (ha : SE T X W a f) (hs : swapsWith a none pos.line X.env = pure false := by rfl) : SSt T X W (.Expr a pos) (sEx f) := (ps_expr ha hs).imp fun D σ H q => by
  obtain ⟨ρ, e, h, R, E, a⟩ := q
  exact ⟨ρ, e, h, R, E, (a.ofR E).mono fun v H1 ⟨ρ1, d, h1, s, R1, r, E1, a1⟩ => a1 ρ1 _ H1 .rfl R1 E1⟩
theorem st_pass : SSt T X W (.Pass pos) sNil := ps_pass.imp fun D σ H q => by
  obtain ⟨ρ, e, h, R, E, a⟩ := q
  exact a ρ σ H .rfl R E
theorem st_if (hc : ST T X W c f) (h1 : SSs T X W s1 g1) (h2 : SSs T X W s2 g2) : SSt T X W (.If c s1 s2 pos) (sIf f g1 g2) := (ps_if hc h1 h2).imp fun D σ H q => by
  obtain ⟨ρ, e, h, R, E, a⟩ := q
  refine ⟨ρ, e, h, R, E, (a.ofR E).mono fun v H1 ⟨ρ1, d, h1, s, R1, r, E1, a1⟩ => ?_⟩
  split at a1
  · obtain rfl := r.bl_
    refine ⟨true, rfl, ?_⟩
    refine itT rfl ?_
    exact ⟨ρ1, e, h1, R1, E1, a1⟩
  · obtain rfl := r.bl_
    refine ⟨false, rfl, ?_⟩
    refine itF rfl ?_
    exact ⟨ρ1, e, h1, R1, E1, a1⟩
  · exact a1.elim
theorem st_asg {tg : Expr} {g : TG} {b : Val → En → Option En} {vs : List Nat} (hg : PG X tg g) (ok : GOk (sy T X) vs g b) (ha : SE T X W a f) (hs : swapsWithSole [tg] a pos.line X.env = pure false := by rfl) (hw : swappedStores [tg] a X.env = pure none := by rfl)
    (h1 : (assignEach [tg] X.env).map (·.2) = [assign tg X.env] := by rfl) : SSt T X W (.Assign [tg] a pos) (sAsg b f) := (ps_asg ha hg hs hw h1).imp fun D σ H q => by
  obtain ⟨ρ, e, h, R, E, a⟩ := q
  refine ⟨ρ, e, h, R, E, (a.ofR E).mono fun v H1 ⟨ρ1, d, h1, s, R1, r, E1, a1⟩ => ?_⟩
  split at a1
  · rename_i e1 he
    exact ok ρ1 H1 h1 e σ d v e1 D.nx R1 E1 r he fun σ' E' _ => a1 ρ1 _ H1 .rfl R1 E'
  · exact a1.elim
theorem st_par2 {i j : Nat} {x y : Str} {g : En → Hea → Res (List Val)} {px py pt : Pos} {kt k2 pt2} (hc : X.calm = true) (hN : X.N.Nodup) (hi : X.N[i]? = some x) (hj : X.N[j]? = some y) (hij : i ≠ j)
    (hx : X.env.scope.names.lookup x = some .local) (hy : X.env.scope.names.lookup y = some .local) (ha : SA T X W [a, b] g)
    (hw : swappedStores [.Tuple [.Name x px, .Name y py] kt pt] (.Tuple [a, b] k2 pt2) X.env = pure (some [x, y]))
    (hs : swapsWithSole [.Tuple [.Name x px, .Name y py] kt pt] (.Tuple [a, b] k2 pt2) pos.line X.env = pure false := by rfl) :
    SSt T X W (.Assign [.Tuple [.Name x px, .Name y py] kt pt] (.Tuple [a, b] k2 pt2) pos) (sPar [i, j] g) := (ps_par hc hN hi hj hij hx hy ha hw hs).imp fun D σ H q => by
  obtain ⟨ρ, e, h, R, E, a⟩ := q
  refine ⟨ρ, e, h, R, E, (a.ofA E).mono fun v H1 ⟨ρ1, d, h1, s, R1, r, E1, a1⟩ => ?_⟩
  split at a1
  · rename_i e1 he
    have hl := setAll_len he
    match d, v, r, hl with
    | [d1, d2], [v1, v2], .cons r1 (.cons r2 .nil), _ =>
      cases he
      exact ⟨v1, v2, rfl, a1 ρ1 _ H1 .rfl R1 ((E1.set r1 i).set r2 j)⟩
  · exact a1.elim
end
/-! ### what a loop walks -/
structure Src where
  item : Nat → Hea → Option (Option Val)
  fuel : Nat
  /-- the items, where they stand -/
  fix : Option (List Val)
  ok : ∀ xs, fix = some xs → item = (fun k _ => if k ≤ xs.length then some xs[k]? else none) ∧ fuel = xs.length + 1
def srcFix (xs : List Val) : Src := ⟨fun k _ => if k ≤ xs.length then some xs[k]? else none, xs.length + 1, some xs, fun _ h => by cases h; exact ⟨rfl, rfl⟩⟩
def srcLive (i : Nat) : Src := ⟨fun k h => (lstAt h i).map fun xs => xs[k]?, 100000, none, fun _ h => nomatch h⟩
def JOk (S : Sy) (ρ : Own) (H : Hp) (J : It) (it : Nat → Hea → Option (Option Val)) : Prop :=
  ∀ (ρ' : Own) (H' : Hp) (h' : Hea), Mv S ρ H ρ' H' → Rel S ρ' h' H' → ∀ k, match it k h' with
    | some none => J.stop k H'
    | some (some d) => J.go k H' ∧ ∀ x H'', J.yld k H' x H'' → Go S ρ' H' ρ' H'' ∧ Rel S ρ' h' H'' ∧ Rep S ρ' H'' d x
    | none => True
def AftI (S : Sy) (ρ : Own) (H : Hp) (r : Res Src) (R : It → Hp → Prop) (W : XK) : Prop := match r with
  | .ok s h' => ∀ ρ' H' J, Go S ρ H ρ' H' → Rel S ρ' h' H' → JOk S ρ' H' J s.item → R J H'
  | .exc c d h' => ∀ ρ' v H' dx, Go S ρ H ρ' H' → Rel S ρ' h' H' → Rep S ρ' H' d v → H' dx = some (.xd [(S.fld c, v)]) → W (.ref (S.ca c)) (some dx) H'
  | .stuck => False
def tI (S : Sy) (W : WX) (f : En → Hea → Res Src) : TI := fun σ H R => ∃ ρ e h, Rel S ρ h H ∧ ER S ρ H e σ ∧ AftI S ρ H (f e h) R (fun c d H' => W c d σ H')
abbrev SI (T : Tb) (X : Cx) (W : WX) (tg iter : Expr) (f : En → Hea → Res Src) : Prop := PI X tg iter (tI (sy T X) W f)
theorem _root_.L2.PI.imp {X : Cx} {tg e : Expr} {t t' : TI} (p : PI X tg e t) (h : ∀ σ H Q, t' σ H Q → t σ H Q) : PI X tg e t' := ⟨fun pins s σ H Q I q => p.run pins s σ H Q I (h σ H Q q)⟩
section
variable {S : Sy} {H : Hp} {ρ : Own}
theorem AftI.mono {r : Res Src} {R R' : It → Hp → Prop} {W : XK} (a : AftI S ρ H r R W) (h : ∀ v H', R v H' → R' v H') : AftI S ρ H r R' W := by
  cases r with
  | ok d h' => exact fun ρ1 H1 J s R j => h _ _ (a ρ1 H1 J s R j)
  | exc c d h' => exact a
  | stuck => exact a
theorem AftI.later {ρ1 : Own} {H1 : Hp} {r : Res Src} {R : It → Hp → Prop} {W : XK} (a : AftI S ρ H r R W) (s : Go S ρ H ρ1 H1) : AftI S ρ1 H1 r R W := by
  cases r with
  | ok d h' => exact fun ρ2 H2 J s2 => a ρ2 H2 J (s.trans s2)
  | exc c d h' => exact fun ρ2 v H2 dx s2 => a ρ2 v H2 dx (s.trans s2)
  | stuck => exact a
theorem AftI.bind {r : Res Val} {k : Val → Hea → Res Src} {R : It → Hp → Prop} {W : XK} (a : AftI S ρ H (r.bind k) R W) :
    Aft S ρ H r (fun v H1 => ∃ ρ1 d h1, Go S ρ H ρ1 H1 ∧ Rel S ρ1 h1 H1 ∧ Rep S ρ1 H1 d v ∧ AftI S ρ1 H1 (k d h1) R W) W := by
  cases r with
  | ok d h => exact fun ρ1 v H1 s R r => ⟨ρ1, d, h, s, R, r, AftI.later (r := k d h) a s⟩
  | exc c d h => exact a
  | stuck => exact a
theorem AftI.bindA {r : Res (List Val)} {k : List Val → Hea → Res Src} {R : It → Hp → Prop} {W : XK} (a : AftI S ρ H (r.bind k) R W) :
    AftA S ρ H r (fun v H1 => ∃ ρ1 d h1, Go S ρ H ρ1 H1 ∧ Rel S ρ1 h1 H1 ∧ Reps S ρ1 H1 d v ∧ AftI S ρ1 H1 (k d h1) R W) W := by
  cases r with
  | ok d h => exact fun ρ1 v H1 s R r => ⟨ρ1, d, h, s, R, r, AftI.later (r := k d h) a s⟩
  | exc c d h => exact a
  | stuck => exact a
theorem AftI.bindL {r : Res (List Val)} {k : List Val → Hea → Res Src} {R : It → Hp → Prop} {W : XK} (a : AftI S ρ H (r.bind k) R W) :
    AftL S ρ H r (fun v H1 => ∃ ρ1 d h1 p vs, Go S ρ H ρ1 H1 ∧ Rel S ρ1 h1 H1 ∧ v = .ref p ∧ H1 p = some (.lst vs) ∧ Fz ρ1 p ∧ Reps S ρ1 H1 d vs ∧ AftI S ρ1 H1 (k d h1) R W) W := by
  cases r with
  | ok d h => exact fun ρ1 p v H1 s R e n z r _ => ⟨ρ1, d, h, p, v, s, R, rfl, e, n, r, AftI.later (r := k d h) a s⟩
  | exc c d h => exact a
  | stuck => exact a
theorem jfix {J : It} {xs : List Val} (w : ∀ (ρ' : Own) (H' : Hp) (h' : Hea), Mv S ρ H ρ' H' → Rel S ρ' h' H' → ∀ k, k ≤ xs.length → match some xs[k]? with
    | some none => J.stop k H'
    | some (some d) => J.go k H' ∧ ∀ x H'', J.yld k H' x H'' → Go S ρ' H' ρ' H'' ∧ Rel S ρ' h' H'' ∧ Rep S ρ' H'' d x
    | none => True) : JOk S ρ H J (srcFix xs).item := fun ρ' H' h' g R k => by
  show match (if k ≤ xs.length then some xs[k]? else none) with | some none => _ | some (some d) => _ | none => _
  by_cases hk : k ≤ xs.length
  · rw [if_pos hk]
    exact w ρ' H' h' g R k hk
  · rw [if_neg hk]
    exact True.intro
/-- a tuple -/
theorem j_tup {a : Addr} {xs : List Val} {vs : List V} (sq : SqT S.K H a vs) (r : Reps S ρ H xs vs) : JOk S ρ H (Itt S.K a) (srcFix xs).item := jfix fun ρ' H' h' g R k _ => by
  have sq' := g.kp.1 _ _ sq
  have r' := r.mono g
  show match some xs[k]? with | some none => _ | some (some d) => _ | none => _
  cases e : xs[k]? with
  | none =>
    have hk : xs.length ≤ k := List.getElem?_eq_none_iff.mp e
    exact ⟨vs, sq', by rw [← r.length]; exact hk⟩
  | some d =>
    obtain ⟨v, ev, rv⟩ := r'.get e
    refine ⟨⟨vs, v, sq', ev⟩, fun x H'' ⟨eh, q⟩ => ?_⟩
    subst eh
    have z := q vs sq'
    rw [ev] at z
    cases z
    exact ⟨.rfl, R, rv⟩
/-- a list that nothing else holds -/
theorem j_tmp {a : Addr} {xs : List Val} {vs : List V} (sq : H a = some (.lst vs)) (n : Fz ρ a) (r : Reps S ρ H xs vs) : JOk S ρ H (Itl S.K a) (srcFix xs).item := jfix fun ρ' H' h' g R k _ => by
  have e' := (g.fz _ _ sq n).1
  have sq' : SqL S.K H' a vs := .inl (.inl e')
  have r' := r.mono g
  show match some xs[k]? with | some none => _ | some (some d) => _ | none => _
  cases e : xs[k]? with
  | none =>
    have hk : xs.length ≤ k := List.getElem?_eq_none_iff.mp e
    exact ⟨vs, sq', by rw [← r.length]; exact hk⟩
  | some d =>
    obtain ⟨v, ev, rv⟩ := r'.get e
    refine ⟨⟨vs, v, sq', ev⟩, fun x H'' ⟨eh, q⟩ => ?_⟩
    subst eh
    have z := q vs sq'
    rw [ev] at z
    cases z
    exact ⟨.rfl, R, rv⟩
/-- a list of the heap, as it stands at each turn -/
theorem j_live {a : Addr} {i : Nat} (ea : ρ.nm[i]? = some a) : JOk S ρ H (Itl S.K a) (srcLive i).item := fun ρ' H' h' g R k => by
  show match (lstAt h' i).map fun xs => xs[k]? with | some none => _ | some (some d) => _ | none => _
  cases el : lstAt h' i with
  | none => exact True.intro
  | some xs =>
    obtain ⟨vs, sq', r'⟩ := R.lst el (g.sub _ _ ea)
    show match some xs[k]? with | some none => _ | some (some d) => _ | none => _
    cases e : xs[k]? with
    | none =>
      have hk : xs.length ≤ k := List.getElem?_eq_none_iff.mp e
      exact ⟨vs, sq', by rw [← r'.length]; exact hk⟩
    | some d =>
      obtain ⟨v, ev, rv⟩ := r'.get e
      refine ⟨⟨vs, v, sq', ev⟩, fun x H'' ⟨eh, q⟩ => ?_⟩
      subst eh
      have z := q vs sq'
      rw [ev] at z
      cases z
      exact ⟨.rfl, R, rv⟩
def rangeV (lo : Int) (n : Nat) : List Val := (List.range n).map fun (i : Nat) => Val.int (lo + (i : Int))
theorem j_range {lo : Int} {n : Nat} : JOk S ρ H (Itr lo n) (srcFix (rangeV lo n)).item := jfix fun ρ' H' h' g R k _ => by
  show match some (rangeV lo n)[k]? with | some none => _ | some (some d) => _ | none => _
  by_cases hk : k < n
  · have e : (rangeV lo n)[k]? = some (.int (lo + (k : Int))) := by
      unfold rangeV
      rw [List.getElem?_map, List.getElem?_range hk]
      rfl
    rw [e]
    refine ⟨hk, fun x H'' ⟨eh, q⟩ => ?_⟩
    subst eh q
    exact ⟨.rfl, R, .int _⟩
  · have e : (rangeV lo n)[k]? = none := by
      unfold rangeV
      rw [List.getElem?_eq_none_iff]
      simpa using hk
    rw [e]
    exact Nat.le_of_not_lt hk
end
/-- sources -/
def iVal (f : En → Hea → Res Val) : En → Hea → Res Src := fun e h => (f e h).bind fun d h1 => match d with
  | .ref i => if (lstAt h1 i).isSome = true then .ok (srcLive i) h1 else .stuck
  | .lst xs => .ok (srcFix xs) h1
  | _ => .stuck
def iTupV (f : En → Hea → Res Val) : En → Hea → Res Src := fun e h => (f e h).bind fun d h1 => match d with
  | .tup xs => .ok (srcFix xs) h1
  | _ => .stuck
def iTmp (f : En → Hea → Res (List Val)) : En → Hea → Res Src := fun e h => (f e h).bind fun xs h1 => .ok (srcFix xs) h1
def rngOk (i : Int) : Bool := decide (-(2 ^ 62) ≤ i ∧ i < 2 ^ 62)
def iRng1V (f : En → Hea → Res (List Val)) : En → Hea → Res Src := fun e h => (f e h).bind fun ds h1 => match ds with
  | [.int j] => if rngOk j = true then .ok (srcFix (rangeV 0 j.toNat)) h1 else .stuck
  | _ => .stuck
def iRng2V (f : En → Hea → Res (List Val)) : En → Hea → Res Src := fun e h => (f e h).bind fun ds h1 => match ds with
  | [.int i, .int j] => if (rngOk i && rngOk j) = true then .ok (srcFix (rangeV i (j - i).toNat)) h1 else .stuck
  | _ => .stuck
section
variable {T : Tb} {X : Cx} {W : WX} {tg a b c : Expr} {f : En → Hea → Res Val} {g : En → Hea → Res (List Val)} {pos p : Pos}
theorem si_val (ha : SE T X W a f) : SI T X W tg a (iVal f) := (pi_list ha).imp fun σ H Q q => by
  obtain ⟨ρ, e, h, R, E, a⟩ := q
  refine ⟨ρ, e, h, R, E, (AftI.bind a).mono fun v H1 ⟨ρ1, d, h1, s, R1, r, a1⟩ => ?_⟩
  split at a1
  · obtain ⟨p, rfl, ea⟩ := r.ref_
    split at a1
    · rename_i i hs
      obtain ⟨xs, hx⟩ := Option.isSome_iff_exists.mp hs
      obtain ⟨vs, sq, _⟩ := R1.lst hx ea
      exact ⟨p, rfl, ⟨vs, sq⟩, a1 ρ1 H1 _ .rfl R1 (j_live ea)⟩
    · exact a1.elim
  · cases r with
    | lst f h1 h2 => exact ⟨_, rfl, ⟨_, .inl (.inl h1)⟩, a1 ρ1 H1 _ .rfl R1 (j_tmp h1 f h2)⟩
  · exact a1.elim
theorem si_tup (ha : SE T X W a f) : SI T X W tg a (iTupV f) := (pi_tup ha).imp fun σ H Q q => by
  obtain ⟨ρ, e, h, R, E, a⟩ := q
  refine ⟨ρ, e, h, R, E, (AftI.bind a).mono fun v H1 ⟨ρ1, d, h1, s, R1, r, a1⟩ => ?_⟩
  split at a1
  · obtain ⟨p, vs, rfl, sq, rr⟩ := r.tup_
    exact ⟨p, rfl, ⟨vs, sq⟩, a1 ρ1 H1 _ .rfl R1 (j_tup sq rr)⟩
  · exact a1.elim
theorem si_tmp (ha : SL T X W a g) : SI T X W tg a (iTmp g) := (pi_list ha).imp fun σ H Q q => by
  obtain ⟨ρ, e, h, R, E, a⟩ := q
  refine ⟨ρ, e, h, R, E, (AftI.bindL a).mono fun v H1 ⟨ρ1, d, h1, p, vs, s, R1, ev, el, n, r, a1⟩ => ?_⟩
  subst ev
  exact ⟨p, rfl, ⟨vs, .inl (.inl el)⟩, a1 ρ1 H1 _ .rfl R1 (j_tmp el n r)⟩
theorem si_range1 (hg : Gl X "range") (hm : X.mg "range" = none) (ha : SA T X W [a] g) (hs : starEach [a] X.env = [(false, eval a X.env)] := by rfl) : SI T X W tg (.Call (.Name "range" p) [a] [] pos) (iRng1V g) := (pi_range1 hg hm ha hs).imp fun σ H Q q => by
  obtain ⟨ρ, e, h, R, E, a⟩ := q
  refine ⟨ρ, e, h, R, E, (AftI.bindA a).mono fun v H1 ⟨ρ1, d, h1, s, R1, r, a1⟩ => ?_⟩
  split at a1
  · obtain rfl := Reps.ints (ns := [_]) r
    split at a1
    · rename_i hr
      have hr := of_decide_eq_true hr
      exact ⟨_, rfl, hr.1, hr.2, a1 ρ1 H1 _ .rfl R1 j_range⟩
    · exact a1.elim
  · exact a1.elim
theorem si_range2 (hg : Gl X "range") (hm : X.mg "range" = none) (ha : SA T X W [a, b] g) (hs : starEach [a, b] X.env = [(false, eval a X.env), (false, eval b X.env)] := by rfl) (hs2 : starEach [b] X.env = [(false, eval b X.env)] := by rfl) :
    SI T X W tg (.Call (.Name "range" p) [a, b] [] pos) (iRng2V g) := (pi_range2 hg hm ha hs hs2).imp fun σ H Q q => by
  obtain ⟨ρ, e, h, R, E, a⟩ := q
  refine ⟨ρ, e, h, R, E, (AftI.bindA a).mono fun v H1 ⟨ρ1, d, h1, s, R1, r, a1⟩ => ?_⟩
  split at a1
  · obtain rfl := Reps.ints (ns := [_, _]) r
    split at a1
    · rename_i hr
      rw [Bool.and_eq_true] at hr
      have h1 := of_decide_eq_true hr.1
      have h2 := of_decide_eq_true hr.2
      exact ⟨_, _, rfl, ⟨h1.1, h1.2, h2.1, h2.2⟩, a1 ρ1 H1 _ .rfl R1 j_range⟩
    · exact a1.elim
  · exact a1.elim
end
/-! ### for -/
def forG (it : Nat → Hea → Option (Option Val)) (b : Val → En → Option En) (body : En → Hea → SRes) : Nat → Nat → En → Hea → SRes
  | 0, _, _, _ => .stuck
  | n + 1, k, e, h => match it k h with
    | some none => .nx e h
    | some (some v) => match b v e with
      | some e1 => match body e1 h with
        | .nx e2 h2 => forG it b body n (k + 1) e2 h2
        | .ct e2 h2 => forG it b body n (k + 1) e2 h2
        | .bk e2 h2 => .nx e2 h2
        | r => r
      | none => .stuck
    | none => .stuck
def forL (b : Val → En → Option En) (body : En → Hea → SRes) : List Val → En → Hea → SRes
  | [], e, h => .nx e h
  | v :: vs, e, h => match b v e with
    | some e1 => match body e1 h with
      | .nx e2 h2 => forL b body vs e2 h2
      | .ct e2 h2 => forL b body vs e2 h2
      | .bk e2 h2 => .nx e2 h2
      | r => r
    | none => .stuck
theorem fix_item (xs : List Val) {k : Nat} (hk : k ≤ xs.length) (h : Hea) : (srcFix xs).item k h = some xs[k]? := by
  show (if k ≤ xs.length then some xs[k]? else none) = _
  rw [if_pos hk]
theorem forG_fix (b : Val → En → Option En) (body : En → Hea → SRes) (xs : List Val) : ∀ (m k : Nat) (e : En) (h : Hea), k + m = xs.length + 1 → 0 < m → forG (srcFix xs).item b body m k e h = forL b body (xs.drop k) e h := by
  intro m
  induction m with
  | zero => intro k e h hm h0; omega
  | succ m ih =>
    intro k e h hm _
    unfold forG
    rw [fix_item xs (by omega)]
    by_cases hk : k < xs.length
    · rw [List.getElem?_eq_getElem hk, List.drop_eq_getElem_cons hk]
      unfold forL
      dsimp only
      cases b xs[k] e with
      | none => rfl
      | some e1 =>
        dsimp only
        cases body e1 h with
        | nx e2 h2 => exact ih (k + 1) e2 h2 (by omega) (by omega)
        | ct e2 h2 => exact ih (k + 1) e2 h2 (by omega) (by omega)
        | _ => rfl
    · rw [List.getElem?_eq_none_iff.mpr (by omega), List.drop_eq_nil_of_le (by omega)]
      rfl
def runFor (s : Src) (b : Val → En → Option En) (body : En → Hea → SRes) (e : En) (h : Hea) : SRes := match s.fix with
  | some xs => forL b body xs e h
  | none => forG s.item b body s.fuel 0 e h
theorem runFor_eq {s : Src} {b : Val → En → Option En} {body : En → Hea → SRes} {e : En} {h : Hea} : runFor s b body e h = forG s.item b body s.fuel 0 e h := by
  unfold runFor
  cases hf : s.fix with
  | none => rfl
  | some xs =>
    obtain ⟨e1, e2⟩ := s.ok xs hf
    rw [e1, e2]
    exact (forG_fix b body xs (xs.length + 1) 0 e h (by omega) (by omega)).symm
def sFor (src : En → Hea → Res Src) (b : Val → En → Option En) (body : En → Hea → SRes) : En → Hea → SRes := fun e h => ofR (src e h) e fun s h1 => runFor s b body e h1
/-! ### while -/
def whG (t : En → Hea → Res Val) (body : En → Hea → SRes) : Nat → En → Hea → SRes
  | 0, _, _ => .stuck
  | n + 1, e, h => ofR (t e h) e fun d h1 => match d with
    | .bl true => match body e h1 with
      | .nx e2 h2 => whG t body n e2 h2
      | .ct e2 h2 => whG t body n e2 h2
      | .bk e2 h2 => .nx e2 h2
      | r => r
    | .bl false => .nx e h1
    | _ => .stuck
def sWhile (fuel : Nat) (t : En → Hea → Res Val) (body : En → Hea → SRes) : En → Hea → SRes := fun e h => whG t body fuel e h
section
variable {S : Sy} {W : WX} {H : Hp} {D : Ends} {ρ : Own} {σ : St} {e : En}
theorem AftS.ofI {r : Res Src} {k : Src → Hea → SRes} (a : AftS S ρ H (Lad.ofR r e k) D W) (E : ER S ρ H e σ) :
    AftI S ρ H r (fun J H1 => ∃ ρ1 d h1, Go S ρ H ρ1 H1 ∧ Rel S ρ1 h1 H1 ∧ JOk S ρ1 H1 J d.item ∧ ER S ρ1 H1 e σ ∧ AftS S ρ1 H1 (k d h1) D W) (fun c d H' => W c d σ H') := by
  cases r with
  | ok d h => exact fun ρ1 H1 J s R r => ⟨ρ1, d, h, s, R, r, E.go s, AftS.later (r := k d h) a s⟩
  | exc c d h => exact fun ρ1 v H1 dx s R r x => a ρ1 v σ H1 dx s R r (E.go s) x
  | stuck => exact a
end
section
variable {T : Tb} {X : Cx} {W : WX} {tg a : Expr} {src : En → Hea → Res Src} {f : En → Hea → Res Val} {body : List Stmt} {fb : En → Hea → SRes} {g : TG} {b : Val → En → Option En} {vs : List Nat} {pos : Pos}
theorem st_for (hp : PassesOwn (model X.prog X.w) X.A X.env X.xe) (hc : X.calm = true) (hi : SI T X W tg a src) (hg : PG X tg g) (ok : GOk (sy T X) vs g b) (hb : SSs T X W body fb) (hs : ∀ x, foldedSetIterable a X.env x = pure x := by intro _; rfl) :
    SSt T X W (.For tg a body [] pos) (sFor src b fb) := by
  refine PS.imp (ps_for hp hc hi hg hb hs) fun D σ H q => ?_
  obtain ⟨ρ, e, h, R, E, a⟩ := q
  refine ⟨ρ, e, h, R, E, (a.ofI E).mono fun J H1 ⟨ρ1, d, h1, s, R1, j, E1, a1⟩ => ?_⟩
  have a1 : AftS (sy T X) ρ1 H1 (forG d.item b fb d.fuel 0 e h1) D W := by rw [← runFor_eq]; exact a1
  refine ⟨fun k m σ H2 => ∃ ρ2 e2 h2, Go (sy T X) ρ1 H1 ρ2 H2 ∧ Rel (sy T X) ρ2 h2 H2 ∧ ER (sy T X) ρ2 H2 e2 σ ∧ AftS (sy T X) ρ2 H2 (forG d.item b fb m k e2 h2) D W, ⟨d.fuel, ρ1, e, h1, .rfl, R1, E1, a1⟩, fun k m σ H2 w => ?_⟩
  obtain ⟨ρ2, e2, h2, g2, R2, E2, a2⟩ := w
  cases m with
  | zero => exact a2.elim
  | succ m =>
    have jk := j ρ2 H2 h2 g2.mv R2 k
    unfold forG at a2
    cases hit : d.item k h2 with
    | none => rw [hit] at a2; exact a2.elim
    | some o =>
      rw [hit] at a2 jk
      cases o with
      | none => exact .inl ⟨jk, a2 ρ2 σ H2 .rfl R2 E2⟩
      | some v =>
        refine .inr ⟨jk.1, fun σ' H' => ∃ ρ2 e2 h2, Go (sy T X) ρ1 H1 ρ2 H' ∧ Rel (sy T X) ρ2 h2 H' ∧ ER (sy T X) ρ2 H' e2 σ' ∧ AftS (sy T X) ρ2 H' (forG d.item b fb m (k + 1) e2 h2) D W, fun σ' H' z => ⟨m, Nat.lt_succ_self m, z⟩, fun x H' y => ?_⟩
        obtain ⟨g3, R3, r3⟩ := jk.2 x H' y
        dsimp only at a2
        cases hbv : b v e2 with
        | none => rw [hbv] at a2; exact a2.elim
        | some e3 =>
          rw [hbv] at a2
          refine ok ρ2 H' h2 e2 σ v x e3 _ R3 (E2.go g3) r3 hbv fun σ3 E3 _ => ⟨ρ2, e3, h2, R3, E3, ?_⟩
          have g4 := g2.trans g3
          have a3 := AftS.later a2 g3
          dsimp only at a3
          revert a3
          cases fb e3 h2 with
          | nx e4 h4 => exact fun a3 ρ4 σ4 H4 s4 R4 E4 => ⟨ρ4, e4, h4, g4.trans s4, R4, E4, a3.later s4⟩
          | ct e4 h4 => exact fun a3 ρ4 σ4 H4 s4 R4 E4 => ⟨ρ4, e4, h4, g4.trans s4, R4, E4, a3.later s4⟩
          | bk e4 h4 => exact fun a3 ρ4 σ4 H4 s4 R4 E4 => a3 ρ4 σ4 H4 s4 R4 E4
          | rt v4 h4 => exact fun a3 => a3
          | exc c4 d4 e4 h4 => exact fun a3 => a3
          | stuck => exact fun a3 => a3
theorem st_while (n : Nat) (hp : PassesOwn (model X.prog X.w) X.A X.env X.xe) (ht : ST T X W a f) (hb : SSs T X W body fb) : SSt T X W (.While a body [] pos) (sWhile n f fb) := by
  refine PS.imp (ps_while hp ht hb) fun D σ H q => ?_
  obtain ⟨ρ, e, h, R, E, a⟩ := q
  refine ⟨fun m σ H2 => ∃ ρ2 e2 h2, Rel (sy T X) ρ2 h2 H2 ∧ ER (sy T X) ρ2 H2 e2 σ ∧ AftS (sy T X) ρ2 H2 (whG f fb m e2 h2) D W, ⟨n, ρ, e, h, R, E, a⟩, fun m σ H2 w => ?_⟩
  obtain ⟨ρ2, e2, h2, R2, E2, a2⟩ := w
  cases m with
  | zero => exact a2.elim
  | succ m =>
    unfold whG at a2
    refine ⟨ρ2, e2, h2, R2, E2, (a2.ofR E2).mono fun v H3 ⟨ρ3, d, h3, s, R3, r, E3, a3⟩ => ?_⟩
    split at a3
    · obtain rfl := r.bl_
      refine ⟨true, rfl, ?_⟩
      refine itT rfl ?_
      refine ⟨fun σ' H' => ∃ ρ2 e2 h2, Rel (sy T X) ρ2 h2 H' ∧ ER (sy T X) ρ2 H' e2 σ' ∧ AftS (sy T X) ρ2 H' (whG f fb m e2 h2) D W, fun σ' H' z => ⟨m, Nat.lt_succ_self m, z⟩, ρ3, e2, h3, R3, E3, ?_⟩
      revert a3
      cases fb e2 h3 with
      | nx e4 h4 => exact fun a3 ρ4 σ4 H4 s4 R4 E4 => ⟨ρ4, e4, h4, R4, E4, a3.later s4⟩
      | ct e4 h4 => exact fun a3 ρ4 σ4 H4 s4 R4 E4 => ⟨ρ4, e4, h4, R4, E4, a3.later s4⟩
      | bk e4 h4 => exact fun a3 ρ4 σ4 H4 s4 R4 E4 => a3 ρ4 σ4 H4 s4 R4 E4
      | rt v4 h4 => exact fun a3 => a3
      | exc c4 d4 e4 h4 => exact fun a3 => a3
      | stuck => exact fun a3 => a3
    · obtain rfl := r.bl_
      refine ⟨false, rfl, ?_⟩
      refine itF rfl ?_
      exact a3 ρ3 σ H3 .rfl R3 E3
    · exact a3.elim
end
end Lad
end
/-! ## LadComp -/
section
set_option maxRecDepth 100000
set_option maxHeartbeats 1000000
namespace Lad
open PySem L2
/-! ### list comprehensions -/
def noX {α : Type} (r : Res α) : Res α := match r with
  | .ok a h => .ok a h
  | _ => .stuck
def wipeE (e : En) : List Nat → En
  | [] => e
  | v :: vs => (wipeE e vs).set v none
def compG (it : Nat → Hea → Option (Option Val)) (b : Val → En → Option En) (tt f : En → Hea → Res Val) (e0 : En) : Nat → Nat → List Val → Hea → Res (List Val)
  | 0, _, _, _ => .stuck
  | n + 1, k, acc, h => match it k h with
    | some none => .ok acc h
    | some (some v) => match b v e0 with
      | some e1 => (noX (tt e1 h)).bind fun c h1 => match c with
        | .bl true => (noX (f e1 h1)).bind fun y h2 => if acc.length < 16777216 then compG it b tt f e0 n (k + 1) (acc ++ [y]) h2 else .stuck
        | .bl false => compG it b tt f e0 n (k + 1) acc h1
        | _ => .stuck
      | none => .stuck
    | none => .stuck
theorem bindOk {α β : Type} {a : α} {h : Hea} {k : α → Hea → Res β} : (Res.ok a h).bind k = k a h := rfl
def compL (b : Val → En → Option En) (tt f : En → Hea → Res Val) (e0 : En) : List Val → Hea → Res (List Val)
  | [], h => .ok [] h
  | v :: vs, h => match b v e0 with
    | some e1 => (noX (tt e1 h)).bind fun c h1 => match c with
      | .bl true => (noX (f e1 h1)).bind fun y h2 => (compL b tt f e0 vs h2).bind fun ys h3 => .ok (y :: ys) h3
      | .bl false => compL b tt f e0 vs h1
      | _ => .stuck
    | none => .stuck
theorem compG_fix (b : Val → En → Option En) (tt f : En → Hea → Res Val) (e0 : En) (xs : List Val) (hz : xs.length ≤ 16777216) : ∀ (m k : Nat) (acc : List Val) (h : Hea), k + m = xs.length + 1 → 0 < m → acc.length ≤ k →
    compG (srcFix xs).item b tt f e0 m k acc h = (compL b tt f e0 (xs.drop k) h).bind fun ys h1 => .ok (acc ++ ys) h1 := by
  intro m
  induction m with
  | zero => intro k acc h hm h0; omega
  | succ m ih =>
    intro k acc h hm _ ha
    unfold compG
    rw [fix_item xs (by omega)]
    by_cases hk : k < xs.length
    · rw [List.getElem?_eq_getElem hk, List.drop_eq_getElem_cons hk]
      unfold compL
      dsimp only
      cases b xs[k] e0 with
      | none => rfl
      | some e1 =>
        dsimp only
        cases noX (tt e1 h) with
        | ok c h1 =>
          simp only [bindOk]
          cases c with
          | bl c =>
            cases c with
            | true =>
              dsimp only
              cases noX (f e1 h1) with
              | ok y h2 =>
                simp only [bindOk]
                rw [if_pos (by omega), ih (k + 1) (acc ++ [y]) h2 (by omega) (by omega) (by simp; omega)]
                cases compL b tt f e0 (xs.drop (k + 1)) h2 with
                | ok ys h3 => simp [bindOk]
                | exc c d h3 => rfl
                | stuck => rfl
              | exc c d h2 => rfl
              | stuck => rfl
            | false =>
              dsimp only
              exact ih (k + 1) acc h1 (by omega) (by omega) (by omega)
          | _ => rfl
        | exc c d h1 => rfl
        | stuck => rfl
    · rw [List.getElem?_eq_none_iff.mpr (by omega), List.drop_eq_nil_of_le (by omega)]
      simp [compL, bindOk]
def runComp (s : Src) (b : Val → En → Option En) (tt f : En → Hea → Res Val) (e0 : En) (h : Hea) : Res (List Val) := match s.fix with
  | some xs => if xs.length ≤ 16777216 then compL b tt f e0 xs h else compG s.item b tt f e0 s.fuel 0 [] h
  | none => compG s.item b tt f e0 s.fuel 0 [] h
theorem runComp_eq {s : Src} {b : Val → En → Option En} {tt f : En → Hea → Res Val} {e0 : En} {h : Hea} : runComp s b tt f e0 h = compG s.item b tt f e0 s.fuel 0 [] h := by
  unfold runComp
  cases hf : s.fix with
  | none => rfl
  | some xs =>
    dsimp only
    split
    · rename_i hz
      obtain ⟨e1, e2⟩ := s.ok xs hf
      rw [e1, e2]
      refine Eq.trans ?_ (compG_fix b tt f e0 xs hz (xs.length + 1) 0 [] h (by omega) (by omega) (by simp)).symm
      rw [List.drop_zero]
      cases compL b tt f e0 xs h <;> rfl
    · rfl
def lComp (own : List Nat) (src : En → Hea → Res Src) (b : Val → En → Option En) (tt f : En → Hea → Res Val) : En → Hea → Res (List Val) := fun e h => (src e h).bind fun s h1 => runComp s b tt f (wipeE e own) h1
def eYes : En → Hea → Res Val := fun _ h => .ok (.bl true) h
abbrev W0 : WX := fun _ _ _ _ => False
section
variable {S : Sy} {ρ ρ1 ρ2 : Own} {H H1 Hc : Hp} {h : Hea} {D : Addr} {us us' : List V}
theorem Go.tmp (g : Go S ρ1 H1 ρ2 Hc) (z : H1 D = Option.none) (e : Hc D = some (.lst us)) : Go S ρ1 H1 ρ2 (upd Hc D (.lst us')) :=
  ⟨g.sub, g.kp.trans (.put e True.intro), fun a o q n => by rw [upd_ne (ne_of_none q z)]; exact g.fr a o q n, g.nw, g.hd⟩
/-- what is being made is changed -/
theorem Rel.off (R : Rel S ρ h H) {o : HO} {u : HO} (n : Off ρ D) (m : D ∈ ρ.hd) (e : H D = some u) (h1 : Ch u) : Rel S ρ h (upd H D o) :=
  ⟨R.len, R.inj, fun i ob a e1 e2 => (R.ob i ob a e1 e2).mono (.hid m e h1) (upd_ne fun z => n i (z ▸ e2)), fun a m => let ⟨⟨_, e⟩, z⟩ := R.hid a m; ⟨upd_some e, z⟩⟩
theorem Rel.hideNew (R : Rel S ρ h H) {o : HO} (n : H D = none) : Rel S (ρ.hide D) h (upd H D o) := by
  have m : Mv S ρ H (ρ.hide D) (upd H D o) := ⟨fun _ _ h => h, .new n, fun a u e f => ⟨by rw [upd_ne (ne_of_none e n)]; exact e, f.1, fun m => by
    rcases List.mem_cons.mp m with m | m
    · exact ne_of_none e n m
    · exact f.2 m⟩⟩
  refine ⟨R.len, R.inj, fun i ob a e1 e2 => (R.ob i ob a e1 e2).mono m (upd_ne fun z => R.free n (z ▸ e2)), fun a m => ?_⟩
  rcases List.mem_cons.mp m with m | m
  · subst m
    exact ⟨⟨_, upd_same⟩, fun i z => R.free n z⟩
  · obtain ⟨⟨_, e⟩, z⟩ := R.hid a m
    exact ⟨upd_some e, z⟩
theorem Go.reh {η : List Addr} (g : Go S ρ H ρ1 H1) : Go S ⟨ρ.nm, η⟩ H ⟨ρ1.nm, η⟩ H1 := ⟨g.sub, g.kp, g.fr, g.nw, Eq.refl _⟩
theorem Go.mvh (g : Go S ρ1 H1 ⟨ρ2.nm, ρ1.hd⟩ Hc) (hh : ρ2.hd = D :: ρ1.hd) (z : H1 D = Option.none) : Mv S ρ1 H1 ρ2 Hc := ⟨g.sub, g.kp, fun a o e f => by
  obtain ⟨h1, h2⟩ := g.mv.fz a o e f
  refine ⟨h1, h2.1, ?_⟩
  rw [hh]
  intro m
  rcases List.mem_cons.mp m with m | m
  · exact ne_of_none e z m
  · exact f.2 m⟩
/-- the thing that was being made is made: it is held -/
theorem Rel.shown {η : List Addr} {xs : List Val} (R : Rel S ρ h H) (hh : ρ.hd = D :: η) (nη : D ∉ η) (n : Off ρ D) (e : H D = some (.lst us)) (r : Reps S ρ H xs us) :
    Rel S ⟨ρ.nm, η⟩ h H ∧ Reps S ⟨ρ.nm, η⟩ H xs us ∧ Rel S (Own.add ⟨ρ.nm, η⟩ D) (h ++ [.lst xs]) H := by
  have m1 : Mv S ρ H ⟨ρ.nm, η⟩ H := ⟨fun _ _ h => h, .rfl, fun a o e f => ⟨e, f.1, fun m => f.2 (by rw [hh]; exact List.mem_cons_of_mem _ m)⟩⟩
  have m2 : Mv S ρ H (Own.add ⟨ρ.nm, η⟩ D) H := ⟨Sub.app (ρ := ⟨ρ.nm, η⟩), .rfl, fun a o e f => ⟨e, (m1.fz a o e f).2.add fun z => f.2 (by rw [hh, z]; exact List.mem_cons_self)⟩⟩
  have hi : ∀ a, a ∈ η → (∃ u, H a = some u) ∧ Off (⟨ρ.nm, η⟩ : Own) a := fun a m => R.hid a (by rw [hh]; exact List.mem_cons_of_mem _ m)
  refine ⟨⟨R.len, R.inj, fun i o a e1 e2 => (R.ob i o a e1 e2).mono m1 rfl, hi⟩, r.mono m1, ?_⟩
  exact Rel.grow (ρ := ⟨ρ.nm, η⟩) R.len R.inj n (fun i o a e1 e2 => (R.ob i o a e1 e2).mono m2 rfl) (.lst e (r.mono m2)) hi nη
theorem ER.wipe {e : En} {σ : St} (E : ER S ρ H e σ) : ∀ vs : List Nat, ER S ρ H (wipeE e vs) (L2.wipe σ vs)
  | [] => E
  | v :: vs => (E.wipe vs).gone v
theorem AftL.bindI {r : Res Src} {k : Src → Hea → Res (List Val)} {Q : VK} {W : XK} (a : AftL S ρ H (r.bind k) Q W) :
    AftI S ρ H r (fun J H1 => ∃ ρ1 d h1, Go S ρ H ρ1 H1 ∧ Rel S ρ1 h1 H1 ∧ JOk S ρ1 H1 J d.item ∧ AftL S ρ1 H1 (k d h1) Q W) W := by
  cases r with
  | ok d h => exact fun ρ1 H1 J s R j => ⟨ρ1, d, h, s, R, j, AftL.later (r := k d h) a s⟩
  | exc c d h => exact a
  | stuck => exact a
theorem AftL.noX {r : Res Val} {k : Val → Hea → Res (List Val)} {Q : VK} {W : XK} (a : AftL S ρ H ((Lad.noX r).bind k) Q W) :
    ∃ d h1, r = .ok d h1 ∧ AftL S ρ H (k d h1) Q W := by
  cases r with
  | ok d h => exact ⟨d, h, rfl, a⟩
  | exc c d h => exact a.elim
  | stuck => exact a.elim
end
section
variable {T : Tb} {X : Cx} {W : WX} {tg iter elt : Expr} {ifs : List Expr} {scope : Scope} {own : List (Str × Nat)} {src : En → Hea → Res Src} {tt f : En → Hea → Res Val} {g : TG} {b : Val → En → Option En} {pos : Pos}
abbrev STs (T : Tb) (X : Cx) (W : WX) (ifs : List Expr) (f : En → Hea → Res Val) : Prop := PTs X ifs (tB (tE (sy T X) W f))
theorem _root_.L2.PTs.imp {t t' : TT} (p : PTs X ifs t) (h : ∀ σ H Q, t' σ H Q → t σ H Q) : PTs X ifs t' := ⟨fun pins s σ H Q I q => p.run pins s σ H Q I (h σ H Q q)⟩
theorem sts_nil : STs T X W [] eYes := pts_nil.imp fun σ H Q q => by
  obtain ⟨ρ, e, h, R, E, a⟩ := q
  obtain ⟨c, ec, q⟩ := a.same R (.bl true)
  cases ec
  exact q
theorem sts_one {c : Expr} (h : ST T X W c f) : STs T X W [c] f := pts_one h
theorem lc_imp (ok : GOk (sy T X) (own.map (·.2)) g b) {σ : St} {H : Hp} {Q : VK} (q : tL (sy T X) W (lComp (own.map (·.2)) src b tt f) σ H Q) :
    tLc (tI (sy T X) W src) g (tB (tE (sy T X) W0 tt)) (tE (sy T X) W0 f) (own.map (·.2)) σ H Q := by
  obtain ⟨ρ, e, h, R, E, a⟩ := q
  refine ⟨ρ, e, h, R, E, (AftL.bindI a).mono fun J H1 ⟨ρ1, d, h1, s, R1, j, a1⟩ => fun D hD => ?_⟩
  have E1 : ER (sy T X) ρ1 H1 e σ := E.go s
  have ew := E1.wipe (own.map (·.2))
  rw [runComp_eq] at a1
  refine ⟨fun k m Hc => ∃ ρ2 h2 acc us, ρ2.hd = D :: ρ1.hd ∧ Go (sy T X) ρ1 H1 ⟨ρ2.nm, ρ1.hd⟩ Hc ∧ Rel (sy T X) ρ2 h2 Hc ∧ Hc D = some (.lst us) ∧ Off ρ2 D ∧ Reps (sy T X) ρ2 Hc acc us ∧ AftL (sy T X) ρ1 H1 (compG d.item b tt f (wipeE e (own.map (·.2))) m k acc h2) Q (fun c d H' => W c d σ H'),
    ⟨d.fuel, ρ1.hide D, h1, [], [], rfl, .side hD, R1.hideNew hD, upd_same, fun i z => R1.free hD z, .nil, a1⟩, fun k m Hc w => ?_⟩
  obtain ⟨ρ2, h2, acc, us, hh, g2, R2, hDc, nD, rA, a2⟩ := w
  have mD : D ∈ ρ2.hd := by rw [hh]; exact List.mem_cons_self
  cases m with
  | zero => exact a2.elim
  | succ m =>
    have jk := j ρ2 Hc h2 (g2.mvh hh hD) R2 k
    unfold compG at a2
    cases hit : d.item k h2 with
    | none => rw [hit] at a2; exact a2.elim
    | some o =>
      rw [hit] at a2 jk
      cases o with
      | none =>
        obtain ⟨k1, k2, k3⟩ := R2.shown hh (R1.fz hD).2 nD hDc rA
        exact .inl ⟨jk, a2 ⟨ρ2.nm, ρ1.hd⟩ D us Hc g2 k1 hDc ⟨nD, (R1.fz hD).2⟩ hD k2 k3⟩
      | some v =>
        refine .inr ⟨jk.1, fun Hc => ∃ ρ2 h2 acc us, ρ2.hd = D :: ρ1.hd ∧ Go (sy T X) ρ1 H1 ⟨ρ2.nm, ρ1.hd⟩ Hc ∧ Rel (sy T X) ρ2 h2 Hc ∧ Hc D = some (.lst us) ∧ Off ρ2 D ∧ Reps (sy T X) ρ2 Hc acc us ∧ AftL (sy T X) ρ1 H1 (compG d.item b tt f (wipeE e (own.map (·.2))) m (k + 1) acc h2) Q (fun c d H' => W c d σ H'),
          fun H' z => ⟨m, Nat.lt_succ_self m, z⟩, fun x H' y => ?_⟩
        obtain ⟨g3, R3, r3⟩ := jk.2 x H' y
        dsimp only at a2
        cases hbv : b v (wipeE e (own.map (·.2))) with
        | none => rw [hbv] at a2; exact a2.elim
        | some e3 =>
          rw [hbv] at a2
          have g4 := g2.trans g3.reh
          refine ok ρ2 H' h2 _ _ v x e3 _ R3 ((E1.wipe _).mono ((g2.mvh hh hD).trans g3.mv)) r3 hbv fun σ3 E3 w3 => ⟨?_, ρ2, e3, h2, R3, E3, ?_⟩
          · rw [w3]
            have : ∀ vs : List Nat, L2.wipe (L2.wipe σ vs) vs = L2.wipe σ vs := by
              intro vs
              have key : ∀ (ws : List Nat) (τ : St), (∀ i ∈ ws, ∀ y, τ[i]? ≠ some (some y)) → L2.wipe τ ws = τ := by
                intro ws
                induction ws with
                | nil => intro _ _; rfl
                | cons w ws ih =>
                  intro τ hτ
                  show (L2.wipe τ ws).set w none = τ
                  rw [ih τ fun i hi => hτ i (List.mem_cons_of_mem _ hi)]
                  apply List.ext_getElem?
                  intro n
                  by_cases hn : w = n
                  · subst hn
                    by_cases hl : w < τ.length
                    · rw [List.getElem?_set_self hl]
                      have := hτ w List.mem_cons_self
                      cases q : τ[w]? with
                      | none => rw [List.getElem?_eq_none_iff] at q; omega
                      | some o =>
                        cases o with
                        | none => rfl
                        | some y => exact absurd q (this y)
                    · rw [List.getElem?_eq_none_iff.mpr (by simpa using hl), List.getElem?_eq_none_iff.mpr (by simpa using hl)]
                  · rw [List.getElem?_set_ne hn]
              exact key vs _ fun i hi y hy => (wipe_some hy).2 hi
            exact this _
          · dsimp only at a2
            obtain ⟨cb, hb1, ht, a3⟩ := a2.noX
            rw [ht]
            refine fun ρ5 v5 H5 s5 R5 r5 => ?_
            have g5 := g4.trans s5.reh
            have hh5 : ρ5.hd = D :: ρ1.hd := s5.hd.trans hh
            have off5 : Off ρ5 D := fun i z => by
              rcases s5.nw i D z with ⟨jj, q⟩ | q
              · exact nD jj q
              · rw [g3.fr D _ hDc nD] at q; cases q
            have hD5 : H5 D = some (.lst us) := s5.fr D _ (g3.fr D _ hDc nD) nD
            split at a3
            · obtain rfl := r5.bl_
              refine ⟨true, rfl, ?_⟩
              refine itT rfl ?_
              obtain ⟨yv, hb2, hf, a4⟩ := a3.noX
              refine ⟨ρ5, e3, hb1, R5, E3.go s5, ?_⟩
              rw [hf]
              refine fun ρ6 v6 H6 s6 R6 r6 => ?_
              have off6 : Off ρ6 D := fun i z => by
                rcases s6.nw i D z with ⟨jj, q⟩ | q
                · exact off5 jj q
                · rw [hD5] at q; cases q
              have hD6 : H6 D = some (.lst us) := s6.fr D _ hD5 off5
              have hh6 : ρ6.hd = D :: ρ1.hd := s6.hd.trans hh5
              have mD6 : D ∈ ρ6.hd := by rw [hh6]; exact List.mem_cons_self
              have rl := rA.length
              split at a4
              · rename_i hl
                refine ⟨us, hD6, by rw [sizeLine_eq]; omega, ρ6, hb2, acc ++ [yv], us ++ [v6], hh6, (g5.trans s6.reh).tmp hD hD6, R6.off off6 mD6 hD6 True.intro, upd_same, off6, ?_, a4⟩
                exact (((rA.go g3).go (s5.trans s6)).app (.one r6)).mono (.hid mD6 hD6 True.intro)
              · exact a4.elim
            · obtain rfl := r5.bl_
              refine ⟨false, rfl, ?_⟩
              refine itF rfl ?_
              exact ⟨ρ5, hb1, acc, us, hh5, g5, R5, hD5, off5, (rA.go g3).go s5, a3⟩
            · exact a3.elim
theorem sl_comp (hc : X.calm = true) (hN : X.N.Nodup) (hi : SI T X W tg iter src) (bk : BlkOk X.N X.env.scope scope own)
    (hg : ∀ (s : Shared) (H : Hp) (C : Addr) (cl : List (Str × Addr)) (fp : List Addr), PG (X.blk s H scope (compEnvC scope cl C X.env) fp) tg g)
    (ok : GOk (sy T X) (own.map (·.2)) g b)
    (ht : ∀ (s : Shared) (H : Hp) (C : Addr) (cl : List (Str × Addr)) (fp : List Addr), STs T (X.blk s H scope (compEnvC scope cl C X.env) fp) W0 ifs tt)
    (he : ∀ (s : Shared) (H : Hp) (C : Addr) (cl : List (Str × Addr)) (fp : List Addr), SE T (X.blk s H scope (compEnvC scope cl C X.env) fp) W0 elt f)
    (hs : ∀ x, foldedSetIterable iter X.env x = pure x := by intro _; rfl) :
    SL T X W (.ListComp elt [⟨tg, iter, ifs, 0⟩] scope pos) (lComp (own.map (·.2)) src b tt f) :=
  (pe_lc hc hN hi bk hg ht he hs).imp fun σ H Q q => lc_imp ok q
/-- name = [..] on one line -/
theorem st_setLc {i : Nat} {y : Str} {py spos : Pos} (hc : X.calm = true) (hN : X.N.Nodup) (hy : X.N[i]? = some y) (hyl : X.env.scope.names.lookup y = some .local)
    (hsw : swapsWith (.ListComp elt [⟨tg, iter, ifs, 0⟩] scope pos) (some (.Name y py)) spos.line X.env = pure true) (hi : SI T X W tg iter src) (bk : BlkOk X.N X.env.scope scope own)
    (hg : ∀ (s : Shared) (H : Hp) (C : Addr) (cl : List (Str × Addr)) (fp : List Addr), PG (X.blk s H scope (compEnvC scope cl C X.env) fp) tg g)
    (ok : GOk (sy T X) (own.map (·.2)) g b)
    (ht : ∀ (s : Shared) (H : Hp) (C : Addr) (cl : List (Str × Addr)) (fp : List Addr), STs T (X.blk s H scope (compEnvC scope cl C X.env) fp) W0 ifs tt)
    (he : ∀ (s : Shared) (H : Hp) (C : Addr) (cl : List (Str × Addr)) (fp : List Addr), SE T (X.blk s H scope (compEnvC scope cl C X.env) fp) W0 elt f)
    (hs : ∀ x, foldedSetIterable iter X.env x = pure x := by intro _; rfl) :
    SSt T X W (.Assign [.Name y py] (.ListComp elt [⟨tg, iter, ifs, 0⟩] scope pos) spos) (sSet i (eNew (lComp (own.map (·.2)) src b tt f))) :=
  (ps_setLc hc hN hy hyl hsw hi bk hg ht he hs).imp fun D σ H q => by
    refine lc_imp (W := W) (tt := tt) (f := f) (Q := fun x H1 => gName i x σ H1 D.nx) ok ?_
    obtain ⟨ρ, e, h, R, E, a⟩ := q
    refine ⟨ρ, e, h, R, E, ?_⟩
    unfold sSet eNew at a
    revert a
    cases lComp (own.map (·.2)) src b tt f e h with
    | ok xs h1 => exact fun a ρ1 p vs H1 s R1 el n z r k => a (ρ1.add p) _ H1 (s.adopt z) k ((E.go (s.adopt z)).set (.ref (by rw [R1.len]; exact add_at)) i)
    | exc c d h1 => exact fun a ρ1 v H1 dx s R1 r x => a ρ1 v σ H1 dx s R1 r (E.go s) x
    | stuck => exact id
/-- name = [..] on one line, a list that nothing changes -/
theorem st_setLcF {i : Nat} {y : Str} {py spos : Pos} (hc : X.calm = true) (hN : X.N.Nodup) (hy : X.N[i]? = some y) (hyl : X.env.scope.names.lookup y = some .local)
    (hsw : swapsWith (.ListComp elt [⟨tg, iter, ifs, 0⟩] scope pos) (some (.Name y py)) spos.line X.env = pure true) (hi : SI T X W tg iter src) (bk : BlkOk X.N X.env.scope scope own)
    (hg : ∀ (s : Shared) (H : Hp) (C : Addr) (cl : List (Str × Addr)) (fp : List Addr), PG (X.blk s H scope (compEnvC scope cl C X.env) fp) tg g)
    (ok : GOk (sy T X) (own.map (·.2)) g b)
    (ht : ∀ (s : Shared) (H : Hp) (C : Addr) (cl : List (Str × Addr)) (fp : List Addr), STs T (X.blk s H scope (compEnvC scope cl C X.env) fp) W0 ifs tt)
    (he : ∀ (s : Shared) (H : Hp) (C : Addr) (cl : List (Str × Addr)) (fp : List Addr), SE T (X.blk s H scope (compEnvC scope cl C X.env) fp) W0 elt f)
    (hs : ∀ x, foldedSetIterable iter X.env x = pure x := by intro _; rfl) :
    SSt T X W (.Assign [.Name y py] (.ListComp elt [⟨tg, iter, ifs, 0⟩] scope pos) spos) (sSet i (eLst (lComp (own.map (·.2)) src b tt f))) :=
  (ps_setLc hc hN hy hyl hsw hi bk hg ht he hs).imp fun D σ H q => by
    refine lc_imp (W := W) (tt := tt) (f := f) (Q := fun x H1 => gName i x σ H1 D.nx) ok ?_
    obtain ⟨ρ, e, h, R, E, a⟩ := q
    refine ⟨ρ, e, h, R, E, ?_⟩
    unfold sSet eLst at a
    revert a
    cases lComp (own.map (·.2)) src b tt f e h with
    | ok xs h1 => exact fun a ρ1 p vs H1 s R1 el n z r k => a ρ1 _ H1 s R1 ((E.go s).set (.lst n el r) i)
    | exc c d h1 => exact fun a ρ1 v H1 dx s R1 r x => a ρ1 v σ H1 dx s R1 r (E.go s) x
    | stuck => exact id
end
end Lad
end
/-! ## LadFn -/
section
set_option maxRecDepth 100000
set_option maxHeartbeats 1000000
namespace Lad
open PySem L2
/-! ### equality of data, as it stands -/
/-! ### what a call has made may be forgotten -/
mutual
def Val.und (n : Nat) : Val → Bool
  | .tup xs => undL n xs
  | .lst xs => undL n xs
  | .dic _ _ vs => undL n vs
  | .obj _ _ vs => undL n vs
  | .ref i => Nat.blt i n
  | .exn _ d => d.und n
  | _ => true
def undL (n : Nat) : List Val → Bool
  | [] => true
  | x :: xs => x.und n && undL n xs
end
def undKv (n : Nat) : List (Val × Val) → Bool
  | [] => true
  | (_, x) :: xs => x.und n && undKv n xs
def undFs (n : Nat) : List (Nat × Val) → Bool
  | [] => true
  | (_, x) :: xs => x.und n && undFs n xs
def Ob.und (n : Nat) : Ob → Bool
  | .lst xs => undL n xs
  | .fro _ => true
  | .dcK kvs => undKv n kvs
  | .dcT kvs => undKv n kvs
  | .ins _ fs => undFs n fs
/-- the first n things of the heap name one another alone -/
def shut (n : Nat) : Nat → Hea → Option Hea
  | 0, _ => some []
  | _ + 1, [] => none
  | k + 1, o :: h => if o.und n = true then (shut n k h).map (o :: ·) else none
theorem Sub.cut {ρ ρ' : Own} (s : Sub ρ ρ') {i : Nat} {a : Addr} (hi : Nat.blt i ρ.nm.length = true) (e : ρ'.nm[i]? = some a) : ρ.nm[i]? = some a := by
  have lt : i < ρ.nm.length := Nat.le_of_ble_eq_true hi
  have := s i _ (List.getElem?_eq_getElem lt)
  rw [e] at this
  cases this
  exact List.getElem?_eq_getElem lt
/-- ρ' has more names than ρ -/
structure Less (ρ ρ' : Own) : Prop where
  sub : Sub ρ ρ'
  hd : ρ'.hd = ρ.hd
theorem Less.fz {ρ ρ' : Own} (s : Less ρ ρ') {a : Addr} (f : Fz ρ' a) : Fz ρ a := ⟨fun i z => f.1 i (s.sub _ _ z), by rw [← s.hd]; exact f.2⟩
mutual
theorem Rep.cut {S : Sy} {ρ ρ' : Own} {H : Hp} (s : Less ρ ρ') : ∀ {d : Val} {v : V}, d.und ρ.nm.length = true → Rep S ρ' H d v → Rep S ρ H d v
  | _, _, _, .non => .non
  | _, _, _, .bl b => .bl b
  | _, _, _, .int i => .int i
  | _, _, _, .str z => .str z
  | _, _, h, .tup q r => .tup q (Reps.cut s (by simpa only [Val.und] using h) r)
  | _, _, h, .lst f q r => .lst (s.fz f) q (Reps.cut s (by simpa only [Val.und] using h) r)
  | _, _, h, .dicK f q e1 e2 r => .dicK (s.fz f) q e1 e2 (Reps.cut s (by simpa only [Val.und] using h) r)
  | _, _, h, .dicT f q e1 e2 r => .dicT (s.fz f) q e1 e2 (Reps.cut s (by simpa only [Val.und] using h) r)
  | _, _, h, .obj f q e1 e2 r => .obj (s.fz f) q e1 e2 (Reps.cut s (by simpa only [Val.und] using h) r)
  | _, _, h, .ref q => .ref (s.sub.cut (by simpa only [Val.und] using h) q)
  | _, _, h, .exn h1 h2 r => .exn h1 h2 (Rep.cut s (by simpa only [Val.und] using h) r)
theorem Reps.cut {S : Sy} {ρ ρ' : Own} {H : Hp} (s : Less ρ ρ') : ∀ {d : List Val} {v : List V}, undL ρ.nm.length d = true → Reps S ρ' H d v → Reps S ρ H d v
  | _, _, _, .nil => .nil
  | _, _, h, .cons r t => by
    simp only [undL, Bool.and_eq_true] at h
    exact .cons (Rep.cut s h.1 r) (Reps.cut s h.2 t)
end
theorem KvR.cut {S : Sy} {ρ ρ' : Own} {H : Hp} {κ : Type} {kd : κ → Val} (s : Less ρ ρ') : ∀ {d : List (Val × Val)} {v : List (κ × V)}, undKv ρ.nm.length d = true → KvR S ρ' H kd d v → KvR S ρ H kd d v
  | _, _, _, .nil => .nil
  | _, _, h, .cons r t => by
    simp only [undKv, Bool.and_eq_true] at h
    exact .cons (r.cut s h.1) (KvR.cut s h.2 t)
theorem FsR.cut {S : Sy} {ρ ρ' : Own} {H : Hp} (s : Less ρ ρ') : ∀ {d : List (Nat × Val)} {v : List (Str × V)}, undFs ρ.nm.length d = true → FsR S ρ' H d v → FsR S ρ H d v
  | _, _, _, .nil => .nil
  | _, _, h, .cons r t => by
    simp only [undFs, Bool.and_eq_true] at h
    exact .cons (r.cut s h.1) (FsR.cut s h.2 t)
theorem ObR.cut {S : Sy} {ρ ρ' : Own} {H : Hp} (s : Less ρ ρ') {o : Ob} {a : Addr} (h : o.und ρ.nm.length = true) (r : ObR S ρ' H o a) : ObR S ρ H o a := by
  cases r with
  | lst h1 h2 => exact .lst h1 (h2.cut s h)
  | fro h1 => exact .fro h1
  | dcK h1 h2 => exact .dcK h1 (h2.cut s h)
  | dcT h1 h2 => exact .dcT h1 (h2.cut s h)
  | ins h1 h2 => exact .ins h1 (h2.cut s h)
theorem shut_at {n : Nat} : ∀ {k : Nat} {h g : Hea}, shut n k h = some g → g.length = k ∧ ∀ (i : Nat) (o : Ob), g[i]? = some o → h[i]? = some o ∧ o.und n = true
  | 0, h, g, e => by
    cases h <;> (cases e; exact ⟨rfl, fun i o q => by simp at q⟩)
  | k + 1, [], g, e => by cases e
  | k + 1, o :: h, g, e => by
    unfold shut at e
    split at e
    · rename_i hb
      cases q : shut n k h with
      | none => rw [q] at e; cases e
      | some g2 =>
        rw [q] at e
        cases e
        obtain ⟨l, z⟩ := shut_at q
        refine ⟨by simp [l], fun i o' e' => ?_⟩
        cases i with
        | zero => simp at e'; subst e'; exact ⟨rfl, hb⟩
        | succ i => simp at e' ⊢; exact z i o' e'
    · cases e
theorem Rel.cut {S : Sy} {ρ ρ' : Own} {H H' : Hp} {h h' g : Hea} (R : Rel S ρ h H) (s : Less ρ ρ') (R' : Rel S ρ' h' H') (e : shut h.length h.length h' = some g) : Rel S ρ g H' := by
  obtain ⟨l, z⟩ := shut_at e
  have hl := R.len
  refine ⟨by omega, R.inj, fun i o a e1 e2 => ?_, fun a m => ?_⟩
  · obtain ⟨e3, e4⟩ := z i o e1
    exact (R'.ob i o a e3 (s.sub _ _ e2)).cut s (by rw [← hl]; exact e4)
  · obtain ⟨h1, h2⟩ := R'.hid a (by rw [s.hd]; exact m)
    exact ⟨h1, fun i z => h2 i (s.sub _ _ z)⟩
/-! ### what a call gives back: things that nothing changes any more -/
def frz : Nat → Nat → Hea → Val → Option Val
  | _, _, _, .non => some .non
  | _, _, _, .bl b => some (.bl b)
  | _, _, _, .int i => some (.int i)
  | _, _, _, .str x => some (.str x)
  | 0, _, _, _ => none
  | f + 1, n, h, .tup xs => (mapO (frz f n h) xs).map .tup
  | f + 1, n, h, .lst xs => (mapO (frz f n h) xs).map .lst
  | f + 1, n, h, .dic t ks vs => (mapO (frz f n h) vs).map (.dic t ks)
  | f + 1, n, h, .obj c ns vs => (mapO (frz f n h) vs).map (.obj c ns)
  | f + 1, n, h, .exn c d => (frz f n h d).map (.exn c)
  | f + 1, n, h, .ref i => if Nat.blt i n = true then some (.ref i) else match h[i]? with
    | some (.lst xs) => (mapO (frz f n h) xs).map .lst
    | some (.dcK kvs) => (mapO (frz f n h) (kvs.map (·.2))).map (.dic false (kvs.map (·.1)))
    | some (.dcT kvs) => (mapO (frz f n h) (kvs.map (·.2))).map (.dic true (kvs.map (·.1)))
    | some (.ins c fs) => (mapO (frz f n h) (fs.map (·.2))).map (.obj c (fs.map (·.1)))
    | _ => none
theorem KvR.split {S : Sy} {ρ : Own} {H : Hp} {κ : Type} {kd : κ → Val} : ∀ {d : List (Val × Val)} {v : List (κ × V)}, KvR S ρ H kd d v → d.map (·.1) = v.map (fun p => kd p.1) ∧ Reps S ρ H (d.map (·.2)) (v.map (·.2))
  | _, _, .nil => ⟨rfl, .nil⟩
  | _, _, .cons r t => ⟨by simp [t.split.1], .cons r t.split.2⟩
theorem FsR.split {S : Sy} {ρ : Own} {H : Hp} : ∀ {d : List (Nat × Val)} {v : List (Str × V)}, FsR S ρ H d v → v.map (·.1) = (d.map (·.1)).map S.nm ∧ Reps S ρ H (d.map (·.2)) (v.map (·.2))
  | _, _, .nil => ⟨rfl, .nil⟩
  | _, _, .cons r t => ⟨by simp [t.split.1], .cons r t.split.2⟩
section
variable {S : Sy} {ρ ρ' : Own} {H : Hp} {h : Hea}
theorem mapO_frz {n f : Nat} (ih : ∀ (d d' : Val) (v : V), Rep S ρ' H d v → frz f n h d = some d' → Rep S ρ H d' v) : ∀ (xs ys : List Val) (vs : List V), Reps S ρ' H xs vs → mapO (frz f n h) xs = some ys → Reps S ρ H ys vs
  | [], _, _, .nil, e => by cases e; exact .nil
  | x :: xs, _, _, .cons r t, e => by
    unfold mapO at e
    split at e
    · rename_i y ys h1 h2
      cases e
      exact .cons (ih _ _ _ r h1) (mapO_frz ih xs _ _ t h2)
    · cases e
theorem map_some {α β : Type} {o : Option α} {g : α → β} {b : β} (e : o.map g = some b) : ∃ a, o = some a ∧ b = g a := by
  cases o with
  | none => cases e
  | some a => cases e; exact ⟨a, rfl, rfl⟩
theorem frz_ok (s : Less ρ ρ') (R : Rel S ρ' h H) : ∀ (f : Nat) (d d' : Val) (v : V), Rep S ρ' H d v → frz f ρ.nm.length h d = some d' → Rep S ρ H d' v := by
  intro f
  induction f with
  | zero =>
    intro d d' v r e
    cases r <;> simp only [frz] at e <;> cases e <;> constructor
  | succ f ih =>
    intro d d' v r e
    cases r with
    | non => simp only [frz] at e; cases e; exact .non
    | bl b => simp only [frz] at e; cases e; exact .bl b
    | int b => simp only [frz] at e; cases e; exact .int b
    | str b => simp only [frz] at e; cases e; exact .str b
    | tup q t =>
      simp only [frz] at e
      obtain ⟨ys, e1, rfl⟩ := map_some e
      exact .tup q (mapO_frz ih _ _ _ t e1)
    | lst w q t =>
      simp only [frz] at e
      obtain ⟨ys, e1, rfl⟩ := map_some e
      exact .lst (s.fz w) q (mapO_frz ih _ _ _ t e1)
    | dicK w q e2 e3 t =>
      simp only [frz] at e
      obtain ⟨ys, e1, rfl⟩ := map_some e
      exact .dicK (s.fz w) q e2 e3 (mapO_frz ih _ _ _ t e1)
    | dicT w q e2 e3 t =>
      simp only [frz] at e
      obtain ⟨ys, e1, rfl⟩ := map_some e
      exact .dicT (s.fz w) q e2 e3 (mapO_frz ih _ _ _ t e1)
    | obj w q e2 e3 t =>
      simp only [frz] at e
      obtain ⟨ys, e1, rfl⟩ := map_some e
      exact .obj (s.fz w) q e2 e3 (mapO_frz ih _ _ _ t e1)
    | exn h1 h2 r =>
      simp only [frz] at e
      obtain ⟨y, e1, rfl⟩ := map_some e
      exact .exn h1 h2 (ih _ _ _ r e1)
    | @ref i a ea =>
      simp only [frz] at e
      split at e
      · rename_i hb
        cases e
        exact .ref (s.sub.cut hb ea)
      · rename_i hb
        have fa : Fz ρ a := by
          refine ⟨fun j z => ?_, fun m => ?_⟩
          · have := R.inj j i a (s.sub _ _ z) ea
            subst this
            exact hb (Nat.ble_eq_true_of_le (List.getElem?_eq_some_iff.mp z).1)
          · exact (R.hid a (by rw [s.hd]; exact m)).2 i ea
        split at e
        · rename_i xs hx
          obtain ⟨ys, e1, rfl⟩ := map_some e
          have o := R.ob i _ a hx ea
          cases o with
          | lst h1 h2 => exact .lst fa h1 (mapO_frz ih _ _ _ h2 e1)
        · rename_i xs hx
          obtain ⟨ys, e1, rfl⟩ := map_some e
          have o := R.ob i _ a hx ea
          cases o with
          | dcK h1 h2 => exact .dicK fa h1 h2.split.1 rfl (mapO_frz ih _ _ _ h2.split.2 e1)
        · rename_i xs hx
          obtain ⟨ys, e1, rfl⟩ := map_some e
          have o := R.ob i _ a hx ea
          cases o with
          | dcT h1 h2 => exact .dicT fa h1 h2.split.1 rfl (mapO_frz ih _ _ _ h2.split.2 e1)
        · rename_i c fs hx
          obtain ⟨ys, e1, rfl⟩ := map_some e
          have o := R.ob i _ a hx ea
          cases o with
          | ins h1 h2 => exact .obj fa h1 h2.split.1 rfl (mapO_frz ih _ _ _ h2.split.2 e1)
        · cases e
end
/-- the end of a call: garbage is dropped, what is given back is changed no more -/
def fin (h : Hea) (d : Val) (h' : Hea) : Res Val := if h'.length = h.length then .ok d h' else match shut h.length h.length h' with
  | none => .ok d h'
  | some g => match frz 40 h.length h' d with
    | some d' => .ok d' g
    | none => .ok d h'
/-- the end of a call that gives back a new thing to be changed -/
def finK (h : Hea) (d : Val) (h' : Hea) : Res Val := if h'.length = h.length then .ok d h' else match shut h.length h.length h' with
  | none => .ok d h'
  | some g => match d with
    | .ref i => match h'[i]? with
      | some o => if o.und h.length = true ∧ h.length ≤ i then .ok (.ref h.length) (g ++ [o]) else .ok d h'
      | _ => .ok d h'
    | _ => .ok d h'
def FinOk (fn : Hea → Val → Hea → Res Val) : Prop := ∀ (S : Sy) (ρ : Own) (H : Hp) (h h' : Hea) (d : Val) (Q : VK) (W : XK), Rel S ρ h H → Aft S ρ H (fn h d h') Q W → Aft S ρ H (.ok d h') Q W
theorem Go.less {S : Sy} {ρ ρ1 : Own} {H H1 : Hp} (s : Go S ρ H ρ1 H1) : Less ρ ρ1 := ⟨s.sub, s.hd⟩
theorem Go.drop {S : Sy} {ρ ρ1 : Own} {H H1 : Hp} (s : Go S ρ H ρ1 H1) : Go S ρ H ρ H1 := ⟨.rfl, s.kp, s.fr, fun i _ z => .inl ⟨i, z⟩, Eq.refl _⟩
theorem fin_ok : FinOk fin := by
  intro S ρ H h h' d Q W R a
  unfold fin at a
  have hl := R.len
  split at a
  · exact a
  · split at a
    · exact a
    · rename_i g hg
      split at a
      · rename_i d' hd
        intro ρ1 v H1 s R1 r
        exact a ρ v H1 s.drop (R.cut s.less R1 hg) (frz_ok s.less R1 _ _ _ _ r (by rw [← hl]; exact hd))
      · exact a
section
variable {S : Sy} {ρ ρ' : Own} {H : Hp} {i : Nat} {p : Addr}
theorem Less.fzA (s : Less ρ ρ') (ep : ρ'.nm[i]? = some p) {a : Addr} (f : Fz ρ' a) : Fz (ρ.add p) a := (s.fz f).add fun z => f.1 i (by rw [z]; exact ep)
mutual
theorem Rep.toAdd (s : Less ρ ρ') (ep : ρ'.nm[i]? = some p) : ∀ {d : Val} {v : V}, d.und ρ.nm.length = true → Rep S ρ' H d v → Rep S (ρ.add p) H d v
  | _, _, _, .non => .non
  | _, _, _, .bl b => .bl b
  | _, _, _, .int i => .int i
  | _, _, _, .str z => .str z
  | _, _, h, .tup q r => .tup q (Reps.toAdd s ep (by simpa only [Val.und] using h) r)
  | _, _, h, .lst f q r => .lst (s.fzA ep f) q (Reps.toAdd s ep (by simpa only [Val.und] using h) r)
  | _, _, h, .dicK f q e1 e2 r => .dicK (s.fzA ep f) q e1 e2 (Reps.toAdd s ep (by simpa only [Val.und] using h) r)
  | _, _, h, .dicT f q e1 e2 r => .dicT (s.fzA ep f) q e1 e2 (Reps.toAdd s ep (by simpa only [Val.und] using h) r)
  | _, _, h, .obj f q e1 e2 r => .obj (s.fzA ep f) q e1 e2 (Reps.toAdd s ep (by simpa only [Val.und] using h) r)
  | _, _, h, .ref q => .ref (Sub.app _ _ (s.sub.cut (by simpa only [Val.und] using h) q))
  | _, _, h, .exn h1 h2 r => .exn h1 h2 (Rep.toAdd s ep (by simpa only [Val.und] using h) r)
theorem Reps.toAdd (s : Less ρ ρ') (ep : ρ'.nm[i]? = some p) : ∀ {d : List Val} {v : List V}, undL ρ.nm.length d = true → Reps S ρ' H d v → Reps S (ρ.add p) H d v
  | _, _, _, .nil => .nil
  | _, _, h, .cons r t => by
    simp only [undL, Bool.and_eq_true] at h
    exact .cons (Rep.toAdd s ep h.1 r) (Reps.toAdd s ep h.2 t)
end
theorem KvR.toAdd {κ : Type} {kd : κ → Val} (s : Less ρ ρ') (ep : ρ'.nm[i]? = some p) : ∀ {d : List (Val × Val)} {v : List (κ × V)}, undKv ρ.nm.length d = true → KvR S ρ' H kd d v → KvR S (ρ.add p) H kd d v
  | _, _, _, .nil => .nil
  | _, _, h, .cons r t => by
    simp only [undKv, Bool.and_eq_true] at h
    exact .cons (r.toAdd s ep h.1) (KvR.toAdd s ep h.2 t)
theorem FsR.toAdd (s : Less ρ ρ') (ep : ρ'.nm[i]? = some p) : ∀ {d : List (Nat × Val)} {v : List (Str × V)}, undFs ρ.nm.length d = true → FsR S ρ' H d v → FsR S (ρ.add p) H d v
  | _, _, _, .nil => .nil
  | _, _, h, .cons r t => by
    simp only [undFs, Bool.and_eq_true] at h
    exact .cons (r.toAdd s ep h.1) (FsR.toAdd s ep h.2 t)
theorem ObR.toAdd (s : Less ρ ρ') (ep : ρ'.nm[i]? = some p) {o : Ob} {a : Addr} (h : o.und ρ.nm.length = true) (r : ObR S ρ' H o a) : ObR S (ρ.add p) H o a := by
  cases r with
  | lst h1 h2 => exact .lst h1 (h2.toAdd s ep h)
  | fro h1 => exact .fro h1
  | dcK h1 h2 => exact .dcK h1 (h2.toAdd s ep h)
  | dcT h1 h2 => exact .dcT h1 (h2.toAdd s ep h)
  | ins h1 h2 => exact .ins h1 (h2.toAdd s ep h)
end
theorem ObR.mono1 {S : Sy} {ρ ρ' : Own} {H : Hp} (m : Mv S ρ H ρ' H) {o : Ob} {a : Addr} (r : ObR S ρ H o a) : ObR S ρ' H o a := r.mono m rfl
theorem finK_ok : FinOk finK := by
  intro S ρ H h h' d Q W R a
  unfold finK at a
  have hl := R.len
  split at a
  · exact a
  · split at a
    · exact a
    · rename_i g hg
      split at a
      · rename_i i
        split at a
        · rename_i o ho
          split at a
          · rename_i hu
            intro ρ1 v H1 s R1 r
            obtain ⟨p, rfl, ep⟩ := r.ref_
            have off : Off ρ p := fun j z => by
              have := R1.inj j i p (s.sub _ _ z) ep
              subst this
              have := (List.getElem?_eq_some_iff.mp z).1
              omega
            have hp : H p = none := by
              rcases s.nw i p ep with ⟨j, z⟩ | z
              · exact (off j z).elim
              · exact z
            have ob := R1.ob i _ p ho ep
            have Rb := R.cut s.less R1 hg
            have hnh : p ∉ ρ.hd := (R.fz hp).2
            -- nothing else stands for p
            have lm : ∀ {o : Ob} {a : Addr}, o.und ρ.nm.length = true → ObR S ρ1 H1 o a → ObR S (ρ.add p) H1 o a := by
              intro o a hu r
              exact ObR.toAdd s.less ep hu r
            exact a (ρ.add p) _ H1 (s.drop.adopt hp) (Rel.grow Rb.len Rb.inj off (fun j o' b e1 e2 => by
              obtain ⟨e3, e4⟩ := (shut_at hg).2 j o' e1
              exact lm (by rw [← hl]; exact e4) (R1.ob j o' b e3 (s.sub _ _ e2))) (lm (by rw [← hl]; exact hu.1) ob) Rb.hid hnh) (.ref (by rw [hl]; exact add_at))
          · exact a
        · exact a
      · exact a
/-! ### defs -/
def startE (n : Nat) (ds : List Val) : En := ds.map some ++ List.replicate (n - ds.length) none
def runG (fn : Hea → Val → Hea → Res Val) (np ns : Nat) (body : En → Hea → SRes) (ds : List Val) (h : Hea) : Res Val := if ds.length = np then
    (match body (startE ns ds) h with
      | .rt d h' => fn h d h'
      | .nx _ h' => fn h .non h'
      | .exc c d _ h' => if h'.length = h.length then .exc c d h' else (match shut h.length h.length h' with
        | some g => (match frz 40 h.length h' d with
          | some d' => .exc c d' g
          | none => .exc c d h')
        | none => .exc c d h')
      | _ => .stuck)
  else .stuck
abbrev runB := runG fin
abbrev runK := runG finK
def spEv (S : Sy) (cf : List Val → Hea → Res Val) : Sp := fun vs H Q E => ∃ ρ h ds, Rel S ρ h H ∧ Reps S ρ H ds vs ∧ Aft S ρ H (cf ds h) Q E
theorem ER.start {S : Sy} {ρ : Own} {H : Hp} {n : Nat} : ∀ {ds : List Val} {vs : List V}, Reps S ρ H ds vs → ER S ρ H (ds.map some ++ List.replicate n none) (vs.map some ++ List.replicate n none)
  | _, _, .nil => by
    induction n with
    | zero => exact .nil
    | succ n ih => exact .cons (fun x e => nomatch e) ih
  | _, _, .cons r t => .cons (fun x e => ⟨_, rfl, by cases e; exact r⟩) (ER.start t)
theorem runB_ok {S : Sy} {fn : Hea → Val → Hea → Res Val} (fo : FinOk fn) {np : Nat} {N : List Str} {fb : En → Hea → SRes} {vs : List V} {H : Hp} {Q : VK} {E : XK} (q : spEv S (runG fn np N.length fb) vs H Q E) :
    vs.length = np ∧ tS S (fun c d _ H' => E c d H') fb { nx := fun _ H' => Q .non H', rt := Q } (L2.start N vs) H := by
  obtain ⟨ρ, h, ds, R, r, a⟩ := q
  unfold runG at a
  split at a
  · rename_i hl
    refine ⟨by rw [← r.length]; exact hl, ρ, startE N.length ds, h, R, ?_, ?_⟩
    · unfold startE L2.start
      rw [← r.length]
      exact ER.start r
    · revert a
      cases fb (startE N.length ds) h with
      | nx e h' => exact fun a ρ1 σ1 H1 s R1 E1 => fo _ _ _ _ _ _ _ _ R a ρ1 .non H1 s R1 .non
      | rt d h' => exact fun a ρ1 v H1 s R1 r1 => fo _ _ _ _ _ _ _ _ R a ρ1 v H1 s R1 r1
      | bk e h' => exact fun a => a.elim
      | ct e h' => exact fun a => a.elim
      | stuck => exact fun a => a
      | exc c d e h' =>
        intro a ρ1 v σ1 H1 dx s R1 r1 E1 x
        dsimp only at a
        split at a
        · exact a ρ1 v H1 dx s R1 r1 x
        · split at a
          · rename_i g hg
            split at a
            · rename_i d' hd
              exact a ρ v H1 dx s.drop (R.cut s.less R1 hg) (frz_ok s.less R1 _ _ _ _ r1 (by rw [← R.len]; exact hd)) x
            · exact a ρ1 v H1 dx s R1 r1 x
          · exact a ρ1 v H1 dx s R1 r1 x
  · exact a.elim
/-- a def keeps its promise -/
theorem fn_ok {P : Program} {w : World} {K : PySem.W.Frag} {mg : Str → Option Value} {base : Heap} {T : Tb} {x qual : Str} {st : Stmt} {f : Addr} {fd : FuncData} {N ps : List Str} {k : Nat} {fb : En → Hea → SRes}
    {fn : Hea → Val → Hea → Res Val} (fo : FinOk fn) (F : Fun K x qual st f fd) (Sc : FnScope N ps (defScope st))
    (hb : ∀ (cdv : Value) (A : Around) (outer : List Env) (s : Shared) (H : Hp) (E : XK), Room k (A.deeper (PyProof.Rows.envOfC qual (defScope st) s.heap.objs.size f cdv)) →
      SSs T (cxOf (L2.CX P w) P w K mg base N qual (defScope st) f cdv A outer s H E) (fun c d _ H' => E c d H') (defBody st) fb) :
    FnOk P w K mg base (L2.CX P w) (k + 1) f fd ps (spEv ⟨K, T.ca, T.nm, T.fld, T.ex⟩ (runG fn ps.length N.length fb)) :=
  F.okX Sc (fun vs H Q E q => (runB_ok fo q).1) fun cdv A outer s H vs Q E hr q => ⟨_, hb cdv A outer s H E hr, (runB_ok fo q).2⟩
def eCall (cf : List Val → Hea → Res Val) (g : En → Hea → Res (List Val)) : En → Hea → Res Val := fun e h => (g e h).bind cf
section
variable {T : Tb} {X : Cx} {W : WX} {x : Str} {f : Addr} {fd : FuncData} {ps : List Str} {k : Nat} {cf : List Val → Hea → Res Val} {e : Expr} {es : List Expr} {g : En → Hea → Res (List Val)} {p pos : Pos}
theorem se_call (F : FnOk X.prog X.w X.K X.mg X.base (L2.CX X.prog X.w) k f fd ps (spEv (sy T X) cf)) (hr : Room k X.A) (hg : Gl X x) (hm : X.mg x = some (.ref f)) (hk : PySem.W.keepIn X.K (.ref f) = true) (hb : Binds X.K fd ps []) (tk : Takes X W)
    (ha : SA T X W (e :: es) g) (hdb : (x == ("__debug__" : Str)) = false := by decide) (he : starEach (e :: es) X.env = (false, eval e X.env) :: starEach es X.env := by rfl) (hpl : (backTo pos (starEach es X.env)).any (·.1) = false := by rfl) :
    SE T X W (.Call (.Name x p) (e :: es) [] pos) (eCall cf g) :=
  (pe_callS (E := fun σ => WE W σ) F hr hg hm hk hb (fun σ => passAt tk σ) ha hdb he hpl).imp fun σ H Q q => by
    obtain ⟨ρ, e, h, R, E, a⟩ := q
    exact ⟨ρ, e, h, R, E, (AftA.bind a).mono fun vs H1 ⟨ρ1, ds, h1, s, R1, r1, a1⟩ => ⟨ρ1, h1, ds, R1, r1, a1⟩⟩
end
end Lad
end
/-! ## LadMore -/
section
set_option maxRecDepth 100000
set_option maxHeartbeats 1000000
namespace Lad
open PySem L2
section
variable {T : Tb} {X : Cx} {W : WX} {a b c : Expr} {f1 f2 f3 : En → Hea → Res Val} {pos : Pos}
theorem se_chain2 {op op' : CmpOp} {g g' : Hea → Val → Val → Option Val} (ho : OpR X (compareOp op) (rB (sy T X) g)) (ho' : OpR X (compareOp op') (rB (sy T X) g')) (ha : SE T X W a f1) (hb : SE T X W b f2) (hc : SE T X W c f3)
    (hm : lastMarks [op, op'] [b, c] = false := by with_unfolding_all rfl) : SE T X W (.Compare a [op, op'] [b, c] pos) (eChain g g' f1 f2 f3) := (pe_chain ho ho' ha hb hc hm).imp fun σ H Q q => chain_imp q
theorem st_chain2 {op op' : CmpOp} {g g' : Hea → Val → Val → Option Val} (ho : OpR X (compareOp op) (rB (sy T X) g)) (ho' : OpR X (compareOp op') (rB (sy T X) g')) (ha : SE T X W a f1) (hb : SE T X W b f2) (hc : SE T X W c f3)
    (hm : lastMarks [op, op'] [b, c] = false := by with_unfolding_all rfl) : ST T X W (.Compare a [op, op'] [b, c] pos) (eChain g g' f1 f2 f3) := (pt_chain ho ho' ha hb hc hm).imp fun σ H Q q => chain_imp q
end
theorem u65 {A : Around} {k : Nat} (hr : Room k A) : A.units + 65 < cLine := by have := hr.un; omega
/-- a built-in class by its name -/
theorem ty_of {X : Cx} {x : Str} {n : String} {pos : Pos} (hm : X.mg x = none) (hv : bootBuiltins x = some (.type n)) (hg : Gl X x := by rfl) (hn : x ≠ "__name__" := by decide) (hd : (x == ("__debug__" : Str)) = false := by decide) : PE X (.Name x pos) (tC (.ty n)) := pe_bltn hg hm hv rfl hn hd
section
variable {T : Tb} {X : Cx} {W : WX} {x : Str} {id : String} {n : String} {a e : Expr} {es : List Expr} {f : En → Hea → Res Val} {g : En → Hea → Res (List Val)} {p pos : Pos}
/-- a built-in def of plain arguments -/
theorem se_cb {r : Hea → List Val → Option Val} (hc : CallR X (.builtin id) (rC (sy T X) r)) (hm : X.mg x = none) (hv : bootBuiltins x = some (.builtin id)) (ha : SA T X W (e :: es) g) (hg : Gl X x := by rfl) (hn : x ≠ "__name__" := by decide) (hdb : (x == ("__debug__" : Str)) = false := by decide)
    (he : starEach (e :: es) X.env = (false, eval e X.env) :: starEach es X.env := by rfl) (hpl : (backTo pos (starEach es X.env)).any (·.1) = false := by rfl) : SE T X W (.Call (.Name x p) (e :: es) [] pos) (eCB r g) :=
  (pe_callB hc hg hm hv ha hn hdb he hpl).imp fun σ H Q q => cb_imp q
theorem se_ct {r : Hea → List Val → Option Val} (hc : CallR X (.type n) (rC (sy T X) r)) (hm : X.mg x = none) (hv : bootBuiltins x = some (.type n)) (ha : SA T X W (e :: es) g) (hg : Gl X x := by rfl) (hn : x ≠ "__name__" := by decide) (hdb : (x == ("__debug__" : Str)) = false := by decide)
    (he : starEach (e :: es) X.env = (false, eval e X.env) :: starEach es X.env := by rfl) (hpl : (backTo pos (starEach es X.env)).any (·.1) = false := by rfl) : SE T X W (.Call (.Name x p) (e :: es) [] pos) (eCB r g) :=
  (pe_callTy hc hg hm hv ha hn hdb he hpl).imp fun σ H Q q => cb_imp q
/-- of a list or tuple that is a value; of a list made for it -/
theorem se_it {r : List Val → Option Val} (hc : CallR X (.builtin id) (rIt (sy T X) r)) (hm : X.mg x = none) (hv : bootBuiltins x = some (.builtin id)) (ha : SE T X W a f) (hg : Gl X x := by rfl) (hn : x ≠ "__name__" := by decide) (hdb : (x == ("__debug__" : Str)) = false := by decide)
    (he : starEach [a] X.env = (false, eval a X.env) :: starEach [] X.env := by rfl) : SE T X W (.Call (.Name x p) [a] [] pos) (eIt r f) :=
  (pe_callB hc hg hm hv (pa_cons ha pa_nil he) hn hdb he rfl).imp fun σ H Q q => it_imp q
theorem se_itL {r : List Val → Option Val} (hc : CallR X (.builtin id) (rIt (sy T X) r)) (hm : X.mg x = none) (hv : bootBuiltins x = some (.builtin id)) (ha : SL T X W a g) (hg : Gl X x := by rfl) (hn : x ≠ "__name__" := by decide) (hdb : (x == ("__debug__" : Str)) = false := by decide)
    (he : starEach [a] X.env = (false, eval a X.env) :: starEach [] X.env := by rfl) : SE T X W (.Call (.Name x p) [a] [] pos) (eItL r g) :=
  (pe_callB hc hg hm hv (pa_cons ha pa_nil he) hn hdb he rfl).imp fun σ H Q q => itL_imp q
theorem se_il {r : List Val → Option Val} (hc : CallR X (.builtin id) (rIl (sy T X) r)) (hm : X.mg x = none) (hv : bootBuiltins x = some (.builtin id)) (ha : SE T X W a f) (hg : Gl X x := by rfl) (hn : x ≠ "__name__" := by decide) (hdb : (x == ("__debug__" : Str)) = false := by decide)
    (he : starEach [a] X.env = (false, eval a X.env) :: starEach [] X.env := by rfl) : SE T X W (.Call (.Name x p) [a] [] pos) (eIl r f) :=
  (pe_callB hc hg hm hv (pa_cons ha pa_nil he) hn hdb he rfl).imp fun σ H Q q => il_imp q
theorem se_ilL {r : List Val → Option Val} (hc : CallR X (.builtin id) (rIl (sy T X) r)) (hm : X.mg x = none) (hv : bootBuiltins x = some (.builtin id)) (ha : SL T X W a g) (hg : Gl X x := by rfl) (hn : x ≠ "__name__" := by decide) (hdb : (x == ("__debug__" : Str)) = false := by decide)
    (he : starEach [a] X.env = (false, eval a X.env) :: starEach [] X.env := by rfl) : SE T X W (.Call (.Name x p) [a] [] pos) (eItL r g) :=
  (pe_callB hc hg hm hv (pa_cons ha pa_nil he) hn hdb he rfl).imp fun σ H Q q => ilL_imp q
theorem se_tit {r : List Val → Option Val} (hc : CallR X (.type n) (rIt (sy T X) r)) (hm : X.mg x = none) (hv : bootBuiltins x = some (.type n)) (ha : SE T X W a f) (hg : Gl X x := by rfl) (hn : x ≠ "__name__" := by decide) (hdb : (x == ("__debug__" : Str)) = false := by decide)
    (he : starEach [a] X.env = (false, eval a X.env) :: starEach [] X.env := by rfl) : SE T X W (.Call (.Name x p) [a] [] pos) (eIt r f) :=
  (pe_callTy hc hg hm hv (pa_cons ha pa_nil he) hn hdb he rfl).imp fun σ H Q q => it_imp q
theorem se_titL {r : List Val → Option Val} (hc : CallR X (.type n) (rIt (sy T X) r)) (hm : X.mg x = none) (hv : bootBuiltins x = some (.type n)) (ha : SL T X W a g) (hg : Gl X x := by rfl) (hn : x ≠ "__name__" := by decide) (hdb : (x == ("__debug__" : Str)) = false := by decide)
    (he : starEach [a] X.env = (false, eval a X.env) :: starEach [] X.env := by rfl) : SE T X W (.Call (.Name x p) [a] [] pos) (eItL r g) :=
  (pe_callTy hc hg hm hv (pa_cons ha pa_nil he) hn hdb he rfl).imp fun σ H Q q => itL_imp q
/-- list(x): a new list -/
def lOf (f : En → Hea → Res Val) : En → Hea → Res (List Val) := fun e h => (f e h).bind fun d h1 => match itemsOf h1 d with
  | some xs => .ok xs h1
  | none => .stuck
theorem sl_list (hm : X.mg "list" = none) (ha : SE T X W a f) (hg : Gl X "list" := by rfl) (he : starEach [a] X.env = (false, eval a X.env) :: starEach [] X.env := by rfl) : SL T X W (.Call (.Name "list" p) [a] [] pos) (lOf f) :=
  (pe_callTy call_list_of hg hm (by decide +kernel) (pa_cons ha pa_nil he) (he := he) (hpl := rfl)).imp fun σ H Q q => by
    obtain ⟨ρ, e, h, R, E, a⟩ := q
    refine ⟨ρ, e, h, R, E, (AftL.bind1 a).mono fun v H1 ⟨ρ1, d, h1, s, R1, r1, a1⟩ => ?_⟩
    split at a1
    · rename_i xs hx
      obtain ⟨p, us, rfl, sq, rr⟩ := items_sq R1 r1 hx
      exact ⟨p, us, rfl, sq.symm, fun l n => a1.made R1 rr l n⟩
    · exact a1.elim
/-! slices of lists -/
def oInt : Val → Option Int
  | .int i => some i
  | _ => none
def lSlice (f : En → Hea → Res Val) (lo hi : Option (En → Hea → Res Val)) : En → Hea → Res (List Val) := fun e h => (f e h).bind fun d h1 => match itemsOf h1 d with
  | some xs => (match lo with
      | none => .ok none h1
      | some g => (g e h1).bind fun i h2 => match i with | .int i => .ok (some i) h2 | _ => .stuck : Res (Option Int)).bind fun l h2 =>
      (match hi with
      | none => .ok none h2
      | some g => (g e h2).bind fun i h3 => match i with | .int i => .ok (some i) h3 | _ => .stuck : Res (Option Int)).bind fun u h3 =>
        .ok ((xs.drop (HT.sIx xs.length 0 l)).take (HT.sIx xs.length xs.length u - HT.sIx xs.length 0 l)) h3
  | none => .stuck
end
end Lad
end
/-! ## LadKey -/
section
set_option maxRecDepth 100000
set_option maxHeartbeats 2000000
namespace Lad
open PySem PySem.W PySem.Calls PySem.HandSPX
/-! ### making an own error whose __new__ may come from a base further up (KeyError has LookupError's) -/
structure MkFacts (nwId inId : String) (tl : List Value) : Prop where
  nw : ∃ Bn inN bmN, ExcBaseFacts Bn nwId inN bmN ∧ tl.contains (.type Bn) = true
  na : tl.contains (.type "AttributeError") = false
  nn : tl.contains (.type "NameError") = false
  ik : builtinKind inId = some .slot
  ir : ∃ B, Manifest.signature? inId = some ⟨.positional, "*", B, .self, [⟨"args", .varPos, false⟩]⟩ ∧ (B != "*") = true
  ip : plainId inId = true
  ie : entryFor table inId = some Builtin.«BaseException.__init__»
theorem MkFacts.of {B nwId inId : String} {tl : List Value} (F : ExcBaseFacts B nwId inId tl) : MkFacts nwId inId tl :=
  ⟨⟨B, inId, tl, F, F.hasB⟩, F.noAttr, F.noName, F.initKind, ⟨B, F.initRow, F.noStar⟩, F.init.plain, F.initEntry⟩
section
variable {prog : Program} {w : World} {A : Around} {E : Value → Shared → Prop} {R : Result → Shared → Prop} {hp : Heap} {g : Array GenState} {dr : Drawn} {tk : Nat} {os : OsState}
variable {nm qn : Str} {C N : Addr} {bs bm bmN : List Value} {hdct : Bool} {sn : List Str} {sub : List Value} {ab : Bool} {col : Option Bool} {dd : Option Addr} {k0 k1 k2 k3 k5 : Option Value} {Bn nwId inN : String}
/-- the class C stands at C; what it stands under -/
abbrev ClsO (hp : Heap) (nm qn : Str) (C N : Addr) (bs bm : List Value) (hdct : Bool) (sn : List Str) (sub : List Value) (ab : Bool) (col : Option Bool) (dd : Option Addr) (k0 k1 k2 k3 k5 : Option Value) (nwId : String) : Prop := hp.get? C = some (excClassObj nm qn C N bs bm hdct sn sub ab col dd k0 k1 k2 k3 k5 nwId)
theorem under {M : Model} {T : String} {b : Bool} {Q : Bool → Shared → Prop} (oC : ClsO hp nm qn C N bs bm hdct sn sub ab col dd k0 k1 k2 k3 k5 nwId) (c : bm.contains (.type T) = b) (q : Q b ⟨hp, g, dr, tk, os⟩) : wpAny M A (isSubtype (.ref C) (.type T)) Q E ⟨hp, g, dr, tk, os⟩ := by
  refine wpAny_isSubtype_exc oC ?_
  rw [List.contains_cons, c]
  exact q
theorem made_new (F : ExcBaseFacts Bn nwId inN bmN) (hB : bm.contains (.type Bn) = true) (nA : bm.contains (.type "AttributeError") = false) (nN : bm.contains (.type "NameError") = false) {us : List Value} (oC : ClsO hp nm qn C N bs bm hdct sn sub ab col dd k0 k1 k2 k3 k5 nwId)
    (q : R (.ok (.ret (.ref (hp.objs.size + 1)))) ⟨(hp.push (kdv_tup us)).push (excO C hp.objs.size), g, dr, tk, os⟩) (hz : us.length ≤ sizeLine) : codeAny (model prog w) A (.builtin nwId ⟨.ref C :: us, []⟩) R ⟨hp, g, dr, tk, os⟩ := by
  have z := F.ends
  refine codeAny_builtinAt F.entry (wpAt_bind ?_)
  refine wpAt_bind (wpAt_stack fun _ _ => wpAt_of_wpAny ?_)
  wp_walk
  refine wpAt_of_wpAny ?_
  rw [F.owner]
  wp_walk using wpAny_madeHere_exc F.canon oC, wpAny_loadPart_at oC, under oC hB, under oC nA, under oC nN
  all_goals (show R _ _; rw [Heap.size_push]; exact q)
theorem made_type (F : ExcBaseFacts Bn nwId inN bmN) (hB : bm.contains (.type Bn) = true) (nA : bm.contains (.type "AttributeError") = false) (nN : bm.contains (.type "NameError") = false) {us : List Value} {fI : Addr} {Q : Fin → Shared → Prop} (oC : ClsO hp nm qn C N bs bm hdct sn sub ab col dd k0 k1 k2 k3 k5 nwId)
    (li : Looks (model prog w) hp (typeLookup (.ref C) "__init__") (some (.ref fI))) (lb : ∀ self, Looks (model prog w) hp (bindSpecial (.ref fI) self) (.ref fI, [self])) (hz : us.length ≤ sizeLine)
    (q : codeAny (model prog w) A (.call (.ref fI) ⟨.ref (hp.objs.size + 1) :: us, []⟩) (fun r s' => match r with | .ok (.ret v) => v = .none ∧ Q (.done (.ret (.ref (hp.objs.size + 1)))) s' | .ok _ => False | .error e => E e s') ⟨(hp.push (kdv_tup us)).push (excO C hp.objs.size), g, dr, tk, os⟩) :
    wpAny (model prog w) A (Builtin.«type.__call__» ⟨.ref C :: us, []⟩) Q E ⟨hp, g, dr, tk, os⟩ := by
  wp_walk using wpAny_loadPart_at oC, wpAny_madeBy_exc oC
  refine codeAny_call_builtin_code (Code.quiet_builtin _ F.quiet) ?_
  have z := F.noStar
  simp only [checkBuiltinCall, F.newKind, F.newSplit, F.newRow]
  wp_walk using wpAny_loadPart_at oC, under oC hB, wpAny_staticBase_exc oC, wpAny_madeBy_exc oC
  refine made_new F hB nA nN oC ?_ hz
  have kp : ∀ b o, hp.get? b = some o → ((hp.push (kdv_tup us)).push (excO C hp.objs.size)).get? b = some o := fun b o e => Heap.get?_push_of_some _ (Heap.get?_push_of_some _ e)
  have oE : ((hp.push (kdv_tup us)).push (excO C hp.objs.size)).get? (hp.objs.size + 1) = some (excO C hp.objs.size) := by heap_get
  have self : ∀ {Q : Bool → Shared → Prop}, Q true ⟨(hp.push (kdv_tup us)).push (excO C hp.objs.size), g, dr, tk, os⟩ → wpAny (model prog w) A (isSubtype (.ref C) (.ref C)) Q E ⟨(hp.push (kdv_tup us)).push (excO C hp.objs.size), g, dr, tk, os⟩ := fun h => wpAny_isSubtype_exc (kp _ _ oC) (by
    rw [show (Value.ref C :: bm).contains (.ref C) = true by simp]; exact h)
  show wpAny _ _ _ _ _ _
  wp_walk using wpAny_loadPart_at oE, self
  refine (li.keeps kp).at (wpAny_holding (wpAny_bind (((lb _).keeps kp).at (wpAny_bind (wpAny_call (codeAny_mono q ?_))))))
  rintro (e | (v | _ | _ | _)) s' h
  · exact h
  · exact h.elim
  · exact h.elim
  · exact h.elim
  · obtain ⟨rfl, h⟩ := h
    wp_walk
    exact h
theorem made_call (F : ExcBaseFacts Bn nwId inN bmN) (hB : bm.contains (.type Bn) = true) (nA : bm.contains (.type "AttributeError") = false) (nN : bm.contains (.type "NameError") = false) {us : List Value} {fI : Addr} (oC : ClsO hp nm qn C N bs bm hdct sn sub ab col dd k0 k1 k2 k3 k5 nwId)
    (li : Looks (model prog w) hp (typeLookup (.ref C) "__init__") (some (.ref fI))) (lb : ∀ self, Looks (model prog w) hp (bindSpecial (.ref fI) self) (.ref fI, [self])) (hz : us.length ≤ sizeLine)
    (q : codeAny (model prog w) (A.under (.builtin "type.__call__" ⟨.ref C :: us, []⟩)) (.call (.ref fI) ⟨.ref (hp.objs.size + 1) :: us, []⟩) (InitBack (hp.objs.size + 1) R) ⟨(hp.push (kdv_tup us)).push (excO C hp.objs.size), g, dr, tk, os⟩) :
    codeAny (model prog w) A (.call (.ref C) ⟨us, []⟩) R ⟨hp, g, dr, tk, os⟩ := by
  have f1 := tc_lookup
  have f2 := tc_bind (.ref C)
  have ty : (⟨hp, g, dr, tk, os⟩ : Shared).TypeIs (.ref C) "type" := ⟨_, oC, rfl⟩
  refine codeAny_of_tree ?_
  show wpAny _ _ (callAny (.ref C) _) _ _ _
  wp_walk using wpAny_loadPart_at oC
  refine ⟨rfl, codeAny_call_builtin_at (Code.quiet_builtin _ (by decide +kernel)) entry_typeCall (wpAny_check_type_call_sub oC (made_type F hB nA nN oC li lb hz (codeAny_mono q ?_)))⟩
  rintro (e | (v | _ | _ | _)) s' h <;> exact h
/-- the bound __init__ of a base, called on a new error -/
theorem init_call {inId : String} {tl : List Value} (FB : MkFacts nwId inId tl) {u x t : Addr} {us : List Value} {Q : Value → Shared → Prop} (oC : ClsO hp nm qn C N bs bm hdct sn sub ab col dd k0 k1 k2 k3 k5 nwId) (ou : hp.get? u = some (kxs_mw inId x)) (ox : hp.get? x = some (excObj C t none .none)) (hz : us.length ≤ sizeLine)
    (q : ∀ h', (∀ b o, b ≠ x → hp.get? b = some o → h'.get? b = some o) → h'.get? x = some (excObj C hp.objs.size none .none) → Q .none ⟨h', g, dr, tk, os⟩) : wpAny (model prog w) A (call (.ref u) us) Q E ⟨hp, g, dr, tk, os⟩ := by
  obtain ⟨B, ir, ib⟩ := FB.ir
  have k := FB.ik
  refine wpAny_call (codeAny_of_tree ?_)
  show wpAny _ A.in1 (callAny (.ref u) ⟨us, []⟩) _ _ _
  simp only [callAny]
  wp_walk
  simp only [ir, k]
  wp_walk
  refine wpAny_onRaise (wpAny_of_eq (check_star_args _ _ _ _ _ _) ?_)
  wp_walk
  refine ⟨plainId_quiet FB.ip _, codeAny_builtin FB.ie ?_⟩
  exact exc_init_tree (cls := .ref C) (t0 := t) (dv := none) (c2 := .none) (c3 := .none) (b4 := .bool false) ox hz fun h' k e _ => q h' k e
end
/-! ### KeyError -/
abbrev keBase : List Value := [.type "KeyError", .type "LookupError", .type "Exception", .type "BaseException", .type "object"]
theorem mk_KeyError : MkFacts "LookupError.__new__" "KeyError.__init__" keBase where
  nw := ⟨_, _, _, PySem.F.excBase_LookupError, by decide +kernel⟩
  na := by decide +kernel
  nn := by decide +kernel
  ik := by kernel_rfl
  ir := ⟨"KeyError", by kernel_rfl, by decide +kernel⟩
  ip := by decide +kernel
  ie := entryFor_alias (id' := "BaseException.__init__") (by rw [fastTable_eq_tree]; kernel_rfl) rfl (by decide +kernel) (by rw [fastTable_eq_tree]; kernel_rfl)
theorem kxs_KeyError : KxsFacts "KeyError" "KeyError.__init__" := ⟨by show builtinType _ = _; rw [builtinType_eq_fast]; kernel_rfl, by kernel_rfl⟩
theorem store_KeyError : StoreFacts "KeyError" keBase "object.__setattr__" "object" where
  mro := by kernel_rfl
  slot := .of (owner := "object") (n := "__setattr__") (by rw [typeLookup_type, builtinLookup_eq_fast]; kernel_rfl) (by decide +kernel) (by decide +kernel) (by decide +kernel) (.inl (by decide +kernel)) (by rw [isSubtype_type]; kernel_rfl)
  entry := PySem.F.store_LookupError.entry
  kind := PySem.F.store_LookupError.kind
  split := PySem.F.store_LookupError.split
  hasOwner := by decide +kernel
  args := PySem.F.store_LookupError.args
  passes := fun self => by kernel_rfl
end Lad
end
/-! ## LadExc -/
section
set_option maxRecDepth 100000
set_option maxHeartbeats 2000000
namespace Lad
open PySem PySem.W PySem.Calls PyProof.Rows PySem.HandSPX
open L2 (defArgs defBody defScope)
/-! ### own errors: def __init__(self, f): super().__init__('..'); self.f = f -/
def exB (txt fld : Str) (j : Nat) (a1 a2 a3 a4 a5 a6 b1 b2 b3 b4 : Pos) : List Stmt :=
  [.Expr (.Call (.Attribute (.Call (.Name "super" a1) [] [] a2) "__init__" a3) [.Constant (.str txt) j a4] [] a5) a6, .Assign [.Attribute (.Name "self" b1) fld b2] (.Name fld b3) b4]
structure InitOk (st : Stmt) (fld : Str) : Prop where
  body : ∃ txt j a1 a2 a3 a4 a5 a6 b1 b2 b3 b4, defBody st = exB txt fld j a1 a2 a3 a4 a5 a6 b1 b2 b3 b4 ∧ ∀ env : Env, ∃ pl : Sem Bool,
    eval (.Call (.Attribute (.Call (.Name "super" a1) [] [] a2) "__init__" a3) [.Constant (.str txt) j a4] [] a5) env = (do
      let ov ← attributeBase (.Call (.Name "super" a1) [] [] a2) "__init__" env (eval (.Call (.Name "super" a1) [] [] a2) env)
      standAt a3.atName
      let (f, first) ← holding [ov] (getMethod ov "__init__" pl)
      callWith a5 f first (backTo a5 (starEach [.Constant (.str txt) j a4] env)) [])
  par : ∃ an p, ((defArgs st).posonlyargs ++ (defArgs st).args).head? = some { arg := "self", annotation := an, pos := p }
  cell : ∀ x ∈ (defScope st).names, x.2 ≠ .cell
  co : (defScope st).isCoroutine = false
  gen : (defScope st).isGenerator = false
  kind : (defScope st).kind = .function
  ls : (defScope st).names.lookup ("self" : Str) = some .local
  lf : (defScope st).names.lookup fld = some .local
  lsu : (defScope st).names.lookup ("super" : Str) = some .globalImplicit
  lc : (defScope st).names.lookup ("__class__" : Str) = some .free
  ne : fld ≠ "self"
  nd : (fld == ("__debug__" : Str)) = false
/-- what the written part says of the class at C (its __init__ at fI, the cell of its class at cc, its code at cda) -/
structure ExTxt (P : Program) (K : Frag) (st : Stmt) (C fI cc cda : Addr) (fd : FuncData) (B newId initId : String) (bmB : List Value) (fld : Str) : Prop where
  kxs : KxsFacts B initId
  eb : MkFacts newId initId bmB
  sf : StoreFacts B bmB "object.__setattr__" "object"
  ini : InitOk st fld
  ei : excInitIn K C bmB newId = true
  ov : excOver K C bmB = true
  sa : findIn K (.ref C) "__setattr__" = some (some (.builtin "object.__setattr__"))
  tkr : takerIn K C fld = some none
  iC : findIn K (.ref C) "__init__" = some (some (.ref fI))
  tC : typeIn K (.ref fI) = some (.type "function")
  kC : keepIn K (.ref C) = true
  exC : subIn K (.ref C) (.type "BaseException") = some true
  exB : subIn K (.ref C) (.type B) = some true
  tyC : typeIn K (.ref C) = some (.type "type")
  hdC : hasDictIn K C = true
  mro : mroIn K C (.ref C) = some true
  sup : nsIn K mainGlobals "super" = some none
  opq : nsIn K cStatics "thirdparty.any" = some none
  alo : ks_superIn K C C "__init__" = some (some (.builtin initId))
  fn : ∃ (qual : Str) (oc dV kV doc pm ct : Value) (od an : Option Addr) (osl : Array (Option Value)), fd = ksFn "__init__" qual (defArgs st) (defBody st) (defScope st) dV kV doc pm an (.ref cda) ct cc ∧ K.lookup fI = some ⟨oc, od, .func fd, osl⟩ ∧ codeIn K (.ref cda) qual = true
  bnd : ∀ (s : Shared) (x : Addr) (v : Value), BindsTo s fd ⟨[.ref x, v], []⟩ [("self", .ref x), (fld, v)]
  code : ∃ (ccl : Value) (cdd : Option Addr) (vs : Array Value) (ccs : Array (Option Value)) (file : Str) (tf : Tok), K.lookup cda = some ⟨ccl, cdd, .fields vs, ccs⟩ ∧ vs[2]? = some (.str file tf) ∧ ((P.main.file : Str) == file) = true
  clc : ∃ (cl : Value) (cld : Option Addr) (csl : Array (Option Value)), K.lookup cc = some ⟨cl, cld, .cell (some (.ref C)), csl⟩
  top : (P.main.scope.names.lookup ("super" : Str)).isSome = false
/-- what __init__ leaves of a fresh exception at x -/
structure XInit (h h' : Heap) (x C dx t1 : Addr) (fld : Str) (v : Value) : Prop where
  keep : ∀ b o, b ≠ x → h.get? b = some o → h'.get? b = some o
  obj : h'.get? x = some { cls := .ref C, dict := some dx, data := .fields #[.ref t1, .none, .none, .none, .bool false, .none] }
  dbig : h.objs.size ≤ dx
  dne : dx ≠ x
  ns : h'.Ns1 dx (fun y => if y = fld then some v else none)
section
variable {P : Program} {w : World} {A : Around} {E : Value → Shared → Prop} {R : Result → Shared → Prop} {s : Shared} {K : Frag} {mg : Str → Option Value} {st : Stmt} {C fI cc cda : Addr} {fd : FuncData} {B newId initId : String} {bmB : List Value} {fld : Str}
/-- self.f = v on a fresh exception -/
theorem xc_store {x t : Addr} {v : Value} {Q : Unit → Shared → Prop} (T : ExTxt P K st C fI cc cda fd B newId initId bmB fld) (X : K.In s.heap) (hx : s.heap.get? x = some (excObj C t none .none))
    (hq : ∀ h' tk dx, (∀ b o, b ≠ x → s.heap.get? b = some o → h'.get? b = some o) → s.heap.objs.size ≤ dx → dx ≠ x → h'.get? x = some (excObj C t (some dx) .none) → h'.Ns1 dx (fun y => if y = fld then some v else none) → Q () { s with heap := h', toks := tk }) :
    wpAny (model P w) A (setAttr (.ref x) fld v) Q E s := by
  refine set_plain (od := none) X ⟨hx, rfl, rfl, trivial⟩ T.sa ?_
  obtain ⟨hp, g, d, tk0, os⟩ := s
  refine osa_openX (od := none) T.sf X ⟨hx, rfl, rfl, trivial⟩ T.ov T.tkr fun b => ?_
  obtain ⟨cd, hc, hd'⟩ : ∃ cd, clsIn K C = some cd ∧ cd.hasDict = true := by
    have := T.hdC
    unfold hasDictIn at this
    cases e : clsIn K C with
    | none => rw [e] at this; simp at this
    | some cd => rw [e] at this; exact ⟨cd, rfl, by simpa using this⟩
  have hxs : x ≠ hp.objs.size := Nat.ne_of_lt (Heap.lt_size hx)
  refine wpAny_bind (wpAny_pure (wpAny_bind (instanceDict_exc hx (looks_clsIn X hc) hd' ?_)))
  refine store_in_new ⟨dictOf [] 0, #[], 0, (Heap.get?_update_other _ _ hxs).trans (Heap.get?_push_at rfl rfl), rfl, fun e he => absurd he (by simp), fun _ => rfl⟩ fun h' tk' hn' hs => ?_
  have e1 : ((hp.push (dictOf [] 0)).update x fun o => { o with dict := some hp.objs.size }).get? x = some (excObj C t (some hp.objs.size) .none) := Heap.get?_update_self _ (Heap.get?_push_of_some _ hx) rfl
  exact hq h' tk' hp.objs.size (fun b o hb ho => (hs.2 b (Nat.ne_of_lt (Heap.lt_size ho))).trans ((Heap.get?_update_other _ _ (Ne.symm hb)).trans (Heap.get?_push_of_some _ ho))) (Nat.le_refl _) hxs.symm ((hs.2 x hxs).trans e1) hn'
/-- __init__ runs -/
theorem xc_init (T : ExTxt P K st C fI cc cda fd B newId initId bmB fld) {x t0 : Addr} {v : Value} (X : K.In s.heap) (hg : s.heap.Ns mainGlobals mg) (hbt : ∃ mb, s.heap.Ns builtinsNs mb ∧ ∀ x : Str, x ≠ "__name__" → mb x = bootBuiltins x) (hlim : s.heap.NoLimit)
    (hx : s.heap.get? x = some (excObj C t0 none .none)) (hnx : K.lookup x = none) (hroom : A.depth < recursionLimit)
    (hq : ∀ h' tk dx t1, XInit s.heap h' x C dx t1 fld v → R (.ok (.ret .none)) { s with heap := h', toks := tk }) :
    codeAny (model P w) A (.call (.ref fI) ⟨[.ref x, v], []⟩) R s := by
  obtain ⟨qual, oc, dV, kV, doc, pm, ct, od, an, osl, rfl, hfI, hcd⟩ := T.fn
  obtain ⟨ccl, cdd, vs, ccs, file, tf, hcode, hvs, hfile⟩ := T.code
  obtain ⟨cl, cld, csl, hcell⟩ := T.clc
  obtain ⟨txt, j, a1, a2, a3, a4, a5, a6, b1, b2, b3, b4, hbody, hev⟩ := T.ini.body
  obtain ⟨pan, pp, hpar⟩ := T.ini.par
  refine ks_codeAny_call_defAt (binds := [("self", .ref x), (fld, v)]) hroom (X _ _ hfI) rfl hlim (codeRec_of X hcd) rfl (T.bnd s x v) T.ini.cell (fun y hy => ?_) (fun h₁ hn k₁ => ?_) T.ini.co T.ini.gen T.ini.kind
  · rcases List.mem_cons.mp hy with rfl | hy
    · exact T.ini.ls
    · rcases List.mem_cons.mp hy with rfl | hy
      · exact T.ini.lf
      · cases hy
  obtain ⟨hp, g, d, tk, os⟩ := s
  have X₁ : K.In h₁ := X.keeps k₁
  have hx₁ := k₁ _ _ hx
  have hxL : x ≠ hp.objs.size := Nat.ne_of_lt (Heap.lt_size hx)
  obtain ⟨mb, hb0, hbm⟩ := hbt
  obtain ⟨cdC, hcC⟩ : ∃ cd, clsIn K C = some cd := by
    have := T.hdC
    unfold hasDictIn at this
    cases e : clsIn K C with
    | none => rw [e] at this; simp at this
    | some cd => exact ⟨cd, rfl⟩
  obtain ⟨oD, hD1, hD2⟩ : ∃ oD, h₁.get? C = some oD ∧ oD.data = .cls cdC := by
    have hcC' := hcC
    unfold clsIn at hcC'
    split at hcC'
    · rename_i c d cd' sl ho
      cases hcC'
      exact ⟨_, X₁ _ _ ho, rfl⟩
    · cases hcC'
  have hself : ([("self", Value.ref x), (fld, v)] : List (Str × Value)).reverse.lookup ("self" : Str) = some (Value.ref x) := by
    have e : (("self" : Str) == fld) = false := by simpa using Ne.symm T.ini.ne
    simp [List.lookup, e]
  have hfld : ([("self", Value.ref x), (fld, v)] : List (Str × Value)).reverse.lookup fld = some v := by simp [List.lookup]
  rw [hbody]
  show PySem.wpAt _ _ (.func _ (ksEnv qual (defScope st) hp.objs.size fI (.ref cda) cc)) (execs _ (ksEnv qual (defScope st) hp.objs.size fI (.ref cda) cc)) _ _ _
  obtain ⟨pl, hev⟩ := hev (ksEnv qual (defScope st) hp.objs.size fI (.ref cda) cc)
  refine ks_wpAt_execs_cons (ks_wpAt_Expr_any (ks_wpAt_MethodCall (pl := pl) ?_ hev) (by simp [interactive, T.ini.kind]))
  refine ks_wpAt_super_base (env := ksEnv qual (defScope st) hp.objs.size fI (.ref cda) cc) T.ini.lsu T.ini.lc (by decide) rfl (X₁ _ _ hfI) rfl hpar rfl (X₁ _ _ hcode) rfl hvs hfile T.top ?_
  refine ks_loadName_global T.ini.kind T.ini.lsu (loadGlobal_builtin (env := ksEnv qual (defScope st) hp.objs.size fI (.ref cda) cc) (hg.keeps k₁) (mg_none_of X hg T.sup) (hb0.keeps k₁) ((hbm _ (by decide +kernel)).trans (by decide +kernel)) ⟨rfl, ?_⟩)
  refine wpAny_loadName_free T.ini.kind T.ini.lc rfl ⟨_, X₁ _ _ hcell, rfl⟩ ?_
  refine wpAny_loadName_local T.ini.kind T.ini.ls hn hself ?_
  refine ks_wpAny_isType_cls hD1 hD2 ⟨rfl, ?_⟩
  refine ks_wpAny_call_super hD1 hD2 hx₁ rfl (fun c e => by cases e) (looks_mroIn X₁ T.mro) (fun h₂ hso k₂ => ?_)
  have X₂ : K.In h₂ := X₁.keeps k₂
  have hx₂ := k₂ _ _ hx₁
  have hI : Looks (model P w) h₂ (isInstance (.ref x) (.type B)) true := (InstAt.type (ox := excObj C t0 none .none) (od := none) ⟨hx₂, rfl, rfl, trivial⟩).andThen (looks_subIn X₂ T.exB)
  have hxC : x ≠ C := fun z => by
    rw [← z] at hD1
    rw [hx₁] at hD1
    cases hD1
    cases hD2
  have alo := T.alo
  unfold ks_superIn at alo
  rw [hcC] at alo
  refine kxs_getMethod T.kxs hso (looks_opaque X₂ T.opq) (l₀ := cdC.mro) (fun A Q E s k q => wpAny_bind ((looks_clsIn X₂ hcC) A _ E s k (wpAny_pure q))) rfl X₂ alo hI hxC (by decide) ?_
  have k₃ : ∀ b o, h₂.get? b = some o → (h₂.push (kxs_mw initId x)).get? b = some o := fun b o e => Heap.get?_push_of_some _ e
  have hu : (h₂.push (kxs_mw initId x)).get? h₂.objs.size = some (kxs_mw initId x) := Heap.get?_push_at rfl rfl
  refine kxs_callWith (i := initId) (x := x) rfl ?_
  refine evalArgs_plain ?_
  refine spliced_cons (Constant_str (k := j) (pos := a4) ?_)
  refine spliced_nil ⟨hu, ?_⟩
  have hLs : hp.objs.size < h₂.objs.size := by
    obtain ⟨oL, _, _, hL, _⟩ := hn
    exact Heap.lt_size (k₂ _ _ hL)
  have hux : h₂.objs.size ≠ x := Nat.ne_of_gt (Heap.lt_size hx₂)
  obtain ⟨nm, Nc, qn, bs, bm, hdct, sn, sub, ab, col, dd, k0, k1, k2, k3, k5, oC, -⟩ := excInit_of (X₂.keeps k₃) T.ei
  refine init_call T.eb oC hu (k₃ _ _ hx₂) (by rw [sizeLine_eq]; exact (by decide : 1 ≤ 16777216)) fun h' kp' hx' => ?_
  have X' : K.In h' := fun a o e => kp' a o (fun z => by rw [z, hnx] at e; cases e) (k₃ _ _ (X₂ a o e))
  have ns' : h'.Ns hp.objs.size (fun y => ([("self", Value.ref x), (fld, v)] : List (Str × Value)).reverse.lookup y) := by
    obtain ⟨oL, es, ep, hL, r⟩ := (hn.keeps k₂).keeps k₃
    exact ⟨oL, es, ep, kp' _ _ (Ne.symm hxL) hL, r⟩
  have hLs' : hp.objs.size < h'.objs.size := by
    obtain ⟨oL, _, _, hL, _⟩ := ns'
    exact Heap.lt_size hL
  refine wpAt_of_wpAny (wpAny_execs_cons (plainObj_wpAny_Assign_Attribute ?_))
  refine wpAny_Name (wpAny_loadName_local T.ini.kind T.ini.lf ns' hfld ?_) T.ini.nd
  refine wpAny_Name (wpAny_loadName_local T.ini.kind T.ini.ls ns' hself ?_) (by decide)
  refine xc_store (s := ⟨h', g, d, _, os⟩) T X' hx' fun h'' tk'' dx kp dn dne ho hns => wpAny_execs_nil ?_
  exact hq h'' tk'' dx _ ⟨fun b o hb e => kp b o hb (kp' b o hb (k₃ _ _ (k₂ _ _ (k₁ _ _ e)))), ho, Nat.le_trans (Nat.le_of_lt hLs') dn, dne, hns⟩
/-- a made error -/
structure XMade (h h' : Heap) (e C d : Addr) (fld : Str) (v : Value) : Prop where
  keep : ∀ b o, h.get? b = some o → h'.get? b = some o
  new : h.objs.size ≤ e
  obj : ∃ oe vs, h'.get? e = some oe ∧ oe.cls = .ref C ∧ oe.dict = some d ∧ oe.data = .fields vs ∧ vs[1]? = some .none
  dbig : h.objs.size ≤ d
  dne : d ≠ e
  ns : h'.Ns1 d (fun y => if y = fld then some v else none)
theorem xc_made (T : ExTxt P K st C fI cc cda fd B newId initId bmB fld) {v : Value} (X : K.In s.heap) (hg : s.heap.Ns mainGlobals mg) (hbt : ∃ mb, s.heap.Ns builtinsNs mb ∧ ∀ x : Str, x ≠ "__name__" → mb x = bootBuiltins x) (hlim : s.heap.NoLimit) (hroom : A.depth + 1 < recursionLimit)
    (hq : ∀ h' tk e d, XMade s.heap h' e C d fld v → R (.ok (.ret (.ref e))) { s with heap := h', toks := tk }) :
    codeAny (model P w) A (.call (.ref C) ⟨[v], []⟩) R s := by
  obtain ⟨nm, N, qn, bs, bm, hdct, sn, sub, ab, col, dd, k0, k1, k2, k3, k5, hC, hT⟩ := excInit_of X T.ei
  obtain ⟨hp, g, dr, tk, os⟩ := s
  have k : ∀ b o, hp.get? b = some o → ((hp.push (kdv_tup [v])).push (excO C hp.objs.size)).get? b = some o := fun b o e => Heap.get?_push_of_some _ (Heap.get?_push_of_some _ e)
  have hget : ((hp.push (kdv_tup [v])).push (excO C hp.objs.size)).get? (hp.objs.size + 1) = some (excObj C hp.objs.size none .none) := by heap_get
  have hnx : K.lookup (hp.objs.size + 1) = none := by
    cases e : K.lookup (hp.objs.size + 1) with
    | none => rfl
    | some o => exact absurd (Nat.lt_of_succ_lt (Heap.lt_size (show hp.get? (hp.objs.size + 1) = some o from X _ _ e))) (Nat.lt_irrefl _)
  obtain ⟨mb, hb0, hbm⟩ := hbt
  obtain ⟨Bn, inN, bmN, F, hB⟩ := T.eb.nw
  refine made_call F ((hT _).trans hB) ((hT _).trans T.eb.na) ((hT _).trans T.eb.nn) hC (looks_findIn X T.iC) (fun self => bind_fn X self T.tC) (by rw [sizeLine_eq]; exact (by decide : 1 ≤ 16777216)) ?_
  refine xc_init (s := ⟨(hp.push (kdv_tup [v])).push (excO C hp.objs.size), g, dr, tk, os⟩) T (X.keeps k) (hg.keeps k) ⟨mb, hb0.keeps k, hbm⟩ (hlim.keeps k) hget hnx hroom fun h' tk' dx t1 M => ?_
  have z : hp.objs.size + 1 + 1 ≤ dx := by
    have q := M.dbig
    simpa only [Heap.size_push] using q
  exact ⟨rfl, hq h' tk' (hp.objs.size + 1) dx ⟨fun b o e => M.keep b o (Nat.ne_of_lt (Nat.lt_succ_of_lt (Heap.lt_size e))) (k b o e), Nat.le_succ _, ⟨_, _, M.obj, rfl, rfl, rfl, rfl⟩, by show hp.objs.size ≤ dx; omega, M.dne, M.ns⟩⟩
end
end Lad
namespace Lad
open PySem L2
theorem relO_one {v : V} {v' : Value} (r : RelV v v') (g f : Str) : RelO (List.lookup f [(g, v)]) (if f = g then some v' else none) := by
  by_cases hw : f = g
  · subst hw
    rw [if_pos rfl]
    have q : List.lookup f [(f, v)] = some v := by simp [List.lookup]
    rw [q]
    exact r
  · rw [if_neg hw]
    have qw : (f == g) = false := by simpa using hw
    have q2 : List.lookup f [(g, v)] = none := by simp [List.lookup, qw]
    rw [q2]
    trivial
section
variable {X : Cx} {st : Stmt} {C fI cc cda : Addr} {fd : FuncData} {B newId initId : String} {bmB : List Value} {fld : Str}
def tMkX (C : Addr) (fld : Str) (ta : TA) : St → Hp → XK → Prop := fun σ H Q => ta σ H fun vs H1 => ∃ v, vs = [v] ∧ ∀ d, H1 d = none → Q (.ref C) (some d) (upd H1 d (.xd [(fld, v)]))
theorem pmk_x {x : Str} {a : Expr} {ta : TA} {p pos : Pos} {k : Nat} (T : ExTxt X.prog X.K st C fI cc cda fd B newId initId bmB fld) (hr : Room k X.A) (gC : X.mg x = some (.ref C)) (ha : PA X [a] ta) (hg : Gl X x := by rfl) (hdb : (x == ("__debug__" : Str)) = false := by decide)
    (he : starEach (a :: []) X.env = (false, eval a X.env) :: starEach [] X.env := by rfl) (hpl : (backTo pos (starEach [] X.env)).any (·.1) = false := by rfl) :
    PMk X (.Call (.Name x p) [a] [] pos) (tMkX C fld ta) := by
  intro pins s σ H Q I h
  refine wpAny_Call_Name_kw (ld_glob I hg gC ?_ hdb)
  refine PySem.W.callWith_K (h₀ := X.base) I.ok.mod.kin T.kC (thn (ha.run pos pins s σ H _ I h) fun us s1 hh => ?_) he hpl
  obtain ⟨vs, H1, I1, r1, v, ev, q1⟩ := hh
  subst ev
  refine ⟨I1.kIn, ?_⟩
  cases r1 with
  | cons rv rn =>
    rename_i v' us'
    cases rn
    have hlim := I1.nolimit
    obtain ⟨mb, hb0, hbm⟩ := I1.ok.mod.blt
    have hg1 := I1.ok.mod.glob.keeps I1.bk
    have hb1 := hb0.keeps I1.bk
    obtain ⟨hp, g, dr, tk, os⟩ := s1
    refine wpAny_call (xc_made T I1.kIn hg1 ⟨mb, hb1, hbm⟩ hlim (by have := hr.dp; omega) fun h' tk' e d M => ?_)
    show MkP X pins σ Q (.ref e) ⟨h', g, dr, tk', os⟩
    obtain ⟨oe, fv, hoe, hc, hd, hdat, h1⟩ := M.obj
    have hns := M.ns
    obtain ⟨G', g1, g2⟩ := restrict h' fun b => decide (b ≠ e)
    have gk : ∀ b, b ≠ e → G'.get? b = h'.get? b := fun b hb => g1 b (decide_eq_true hb)
    have ge : G'.get? e = none := g2 e (by simp)
    have old : ∀ b o, hp.get? b = some o → G'.get? b = some o := fun b o q => (gk b (Nat.ne_of_lt (Nat.lt_of_lt_of_le (Heap.lt_size q) M.new))).trans (M.keep b o q)
    have ob : ObjOk X.prog X.w (upd H1 d (.xd [(fld, v)])) G' d (.xd [(fld, v)]) := ⟨_, hns.at (fun o q => (gk d M.dne).trans q), fun f => relO_one rv fld f⟩
    have J : Inv X pins σ (upd H1 d (.xd [(fld, v)])) ⟨G', g, dr, tk', os⟩ := I1.laid (t' := tk') old M.dbig ob
    refine ⟨e, oe, fv, ⟨G', g, dr, tk', os⟩, _, .ref C, some d, rfl, J, fun b o q => ?_, ge, hoe, ⟨hc, hd⟩, hdat, h1, ?_, rfl, I1.bare, raises_own T.exC T.tyC, q1 d (I1.hok.fresh M.dbig)⟩
    · by_cases hb : b = e
      · have q' : G'.get? b = some o := q
        rw [hb, ge] at q'; cases q'
      · exact (gk b hb).symm.trans q
    · rw [upd_ne (Ne.symm M.dne)]
      exact I1.hok.fresh M.new
end
/-! ### raise X(e) -/
def sRaise (c : Nat) (f : En → Hea → Res Val) : En → Hea → SRes := fun e h => ofR (f e h) e fun d h1 => .exc c d e h1
section
variable {T : Tb} {X : Cx} {W : WX} {st : Stmt} {fI cc cda : Addr} {fd : FuncData} {B newId initId : String} {bmB : List Value} {c : Nat} {x : Str} {a : Expr} {f : En → Hea → Res Val} {p pos pos2 : Pos} {k : Nat}
theorem st_raise (hc : X.calm = true) (E : ExTxt X.prog X.K st (T.ca c) fI cc cda fd B newId initId bmB (T.fld c)) (hr : Room k X.A) (gC : X.mg x = some (.ref (T.ca c))) (tk : Takes X W) (ha : SE T X W a f) (hg : Gl X x := by rfl) (hdb : (x == ("__debug__" : Str)) = false := by decide)
    (he : starEach (a :: []) X.env = (false, eval a X.env) :: starEach [] X.env := by rfl) (hpl : (backTo pos (starEach [] X.env)).any (·.1) = false := by rfl) :
    SSt T X W (.Raise (some (.Call (.Name x p) [a] [] pos)) none pos2) (sRaise c f) := (ps_raise hc tk (pmk_x E hr gC (pa_cons ha pa_nil he) hg hdb he hpl)).imp fun D σ H q => by
  obtain ⟨ρ, e, h, R, E, a⟩ := q
  refine ⟨ρ, e, h, R, E, (a.ofR E).mono fun v H1 ⟨ρ1, d, h1, s, R1, r, E1, a1⟩ => ⟨v, rfl, fun dx hd => ?_⟩⟩
  exact a1 ρ1 v σ _ dx (.side hd) (R1.side hd) (r.mono (.side hd)) (E1.mono (.side hd)) upd_same
end
end Lad
end
/-! ## LadTry -/
section
set_option maxRecDepth 100000
set_option maxHeartbeats 2000000
namespace Lad
open PySem L2
/-! ### no error inside -/
mutual
def Val.noEx : Val → Bool
  | .tup xs => noExL xs
  | .lst xs => noExL xs
  | .dic _ _ xs => noExL xs
  | .obj _ _ xs => noExL xs
  | .exn _ _ => false
  | _ => true
def noExL : List Val → Bool
  | [] => true
  | x :: xs => x.noEx && noExL xs
end
def noExKv : List (Val × Val) → Bool
  | [] => true
  | (a, b) :: xs => b.noEx && noExKv xs
def noExFs : List (Nat × Val) → Bool
  | [] => true
  | (a, b) :: xs => b.noEx && noExFs xs
def Ob.noEx : Ob → Bool
  | .lst xs => noExL xs
  | .fro _ => true
  | .dcK xs => noExKv xs
  | .dcT xs => noExKv xs
  | .ins _ fs => noExFs fs
def noExH : Hea → Bool
  | [] => true
  | o :: os => o.noEx && noExH os
def noExE : En → Bool
  | [] => true
  | none :: r => noExE r
  | some v :: r => v.noEx && noExE r
/-- the same tables but for the handled error -/
def Sy.like (S S' : Sy) : Prop := S.K = S'.K ∧ S.ca = S'.ca ∧ S.nm = S'.nm ∧ S.fld = S'.fld
section
variable {S S' : Sy} {ρ : Own} {H : Hp}
mutual
theorem Rep.no : ∀ {d : Val} {v : V}, S.ex = none → Rep S ρ H d v → d.noEx = true
  | _, _, _, .non => rfl
  | _, _, _, .bl _ => rfl
  | _, _, _, .int _ => rfl
  | _, _, _, .str _ => rfl
  | _, _, h, .tup _ r => by simp only [Val.noEx]; exact Reps.no h r
  | _, _, h, .lst _ _ r => by simp only [Val.noEx]; exact Reps.no h r
  | _, _, h, .dicK _ _ _ _ r => by simp only [Val.noEx]; exact Reps.no h r
  | _, _, h, .dicT _ _ _ _ r => by simp only [Val.noEx]; exact Reps.no h r
  | _, _, h, .obj _ _ _ _ r => by simp only [Val.noEx]; exact Reps.no h r
  | _, _, _, .ref _ => rfl
  | _, _, h, .exn e _ _ => by rw [h] at e; cases e
theorem Reps.no : ∀ {d : List Val} {v : List V}, S.ex = none → Reps S ρ H d v → noExL d = true
  | _, _, _, .nil => rfl
  | _, _, h, .cons r t => by simp only [noExL, Rep.no h r, Reps.no h t, Bool.and_self]
end
mutual
theorem Rep.like (l : S.like S') : ∀ {d : Val} {v : V}, d.noEx = true → Rep S ρ H d v → Rep S' ρ H d v
  | _, _, _, .non => .non
  | _, _, _, .bl _ => .bl _
  | _, _, _, .int _ => .int _
  | _, _, _, .str _ => .str _
  | _, _, h, .tup s r => .tup (by rw [← l.1]; exact s) (Reps.like l (by simpa [Val.noEx] using h) r)
  | _, _, h, .lst f q r => .lst f q (Reps.like l (by simpa [Val.noEx] using h) r)
  | _, _, h, .dicK f q e1 e2 r => .dicK f q e1 e2 (Reps.like l (by simpa [Val.noEx] using h) r)
  | _, _, h, .dicT f q e1 e2 r => .dicT f q e1 e2 (Reps.like l (by simpa [Val.noEx] using h) r)
  | _, _, h, .obj f q e1 e2 r => .obj f (by rw [← l.2.1]; exact q) (by rw [← l.2.2.1]; exact e1) e2 (Reps.like l (by simpa [Val.noEx] using h) r)
  | _, _, _, .ref e => .ref e
  | _, _, h, .exn _ _ _ => by simp [Val.noEx] at h
theorem Reps.like (l : S.like S') : ∀ {d : List Val} {v : List V}, noExL d = true → Reps S ρ H d v → Reps S' ρ H d v
  | _, _, _, .nil => .nil
  | _, _, h, .cons r t => by
    simp only [noExL, Bool.and_eq_true] at h
    exact .cons (Rep.like l h.1 r) (Reps.like l h.2 t)
end
theorem KvR.like {κ : Type} {kd : κ → Val} (l : S.like S') : ∀ {d : List (Val × Val)} {v : List (κ × V)}, noExKv d = true → KvR S ρ H kd d v → KvR S' ρ H kd d v
  | _, _, _, .nil => .nil
  | _, _, h, .cons r t => by
    simp only [noExKv, Bool.and_eq_true] at h
    exact .cons (Rep.like l h.1 r) (KvR.like l h.2 t)
theorem FsR.like (l : S.like S') : ∀ {d : List (Nat × Val)} {v : List (Str × V)}, noExFs d = true → FsR S ρ H d v → FsR S' ρ H d v
  | _, _, _, .nil => .nil
  | _, _, h, .cons r t => by
    simp only [noExFs, Bool.and_eq_true] at h
    rw [l.2.2.1]
    exact .cons (Rep.like l h.1 r) (FsR.like l h.2 t)
theorem KvR.no {κ : Type} {kd : κ → Val} (h : S.ex = none) : ∀ {d : List (Val × Val)} {v : List (κ × V)}, KvR S ρ H kd d v → noExKv d = true
  | _, _, .nil => rfl
  | _, _, .cons r t => by simp only [noExKv, Rep.no h r, KvR.no h t, Bool.and_self]
theorem FsR.no (h : S.ex = none) : ∀ {d : List (Nat × Val)} {v : List (Str × V)}, FsR S ρ H d v → noExFs d = true
  | _, _, .nil => rfl
  | _, _, .cons r t => by simp only [noExFs, Rep.no h r, FsR.no h t, Bool.and_self]
theorem ObR.like (l : S.like S') {o : Ob} {a : Addr} (h : o.noEx = true) (r : ObR S ρ H o a) : ObR S' ρ H o a := by
  cases r with
  | lst h1 h2 => exact .lst h1 (h2.like l h)
  | fro h1 => exact .fro h1
  | dcK h1 h2 => exact .dcK h1 (h2.like l h)
  | dcT h1 h2 => exact .dcT h1 (h2.like l h)
  | ins h1 h2 => exact .ins (by rw [← l.2.1]; exact h1) (h2.like l h)
theorem ObR.no (h : S.ex = none) {o : Ob} {a : Addr} (r : ObR S ρ H o a) : o.noEx = true := by
  cases r with
  | lst h1 h2 => exact h2.no h
  | fro h1 => rfl
  | dcK h1 h2 => exact h2.no h
  | dcT h1 h2 => exact h2.no h
  | ins h1 h2 => exact h2.no h
theorem noExH_get : ∀ {h : Hea} {i : Nat} {o : Ob}, noExH h = true → h[i]? = some o → o.noEx = true
  | o :: os, 0, _, h, e => by
    simp only [noExH, Bool.and_eq_true] at h
    cases e
    exact h.1
  | o :: os, i + 1, _, h, e => by
    simp only [noExH, Bool.and_eq_true] at h
    exact noExH_get (i := i) h.2 e
  | [], _, _, _, e => by simp at e
theorem Rel.like {h : Hea} (l : S.like S') (hn : ∀ (i : Nat) (o : Ob), h[i]? = some o → o.noEx = true) (R : Rel S ρ h H) : Rel S' ρ h H := ⟨R.len, R.inj, fun i o a e1 e2 => (R.ob i o a e1 e2).like l (hn i o e1), R.hid⟩
theorem Rel.no {h : Hea} (hx : S.ex = none) (R : Rel S ρ h H) : ∀ (i : Nat) (o : Ob), h[i]? = some o → o.noEx = true := fun i o e => by
  obtain ⟨a, _, r⟩ := R.at e
  exact r.no hx
theorem ER.like (l : S.like S') : ∀ {e : En} {σ : St}, noExE e = true → ER S ρ H e σ → ER S' ρ H e σ
  | _, _, _, .nil => .nil
  | none :: _, _, h, .cons r t => .cons (fun x e => nomatch e) (ER.like l h t)
  | some v :: _, _, h, .cons r t => by
    simp only [noExE, Bool.and_eq_true] at h
    exact .cons (fun x e => by
      obtain ⟨y, ey, q⟩ := r x e
      cases e
      exact ⟨y, ey, q.like l h.1⟩) (ER.like l h.2 t)
theorem ER.no (hx : S.ex = none) : ∀ {e : En} {σ : St}, ER S ρ H e σ → noExE e = true
  | _, _, .nil => rfl
  | none :: _, _, .cons r t => by
    simp only [noExE]
    exact ER.no hx t
  | some v :: _, _, .cons r t => by
    obtain ⟨y, ey, q⟩ := r v rfl
    simp only [noExE, q.no hx, ER.no hx t, Bool.and_self]
theorem Kp.like (l : S.like S') {H' : Hp} (k : Kp S H H') : Kp S' H H' := ⟨fun a xs h => by rw [← l.1] at h ⊢; exact k.1 a xs h, k.2⟩
theorem Go.like (l : S.like S') {ρ' : Own} {H' : Hp} (g : Go S ρ H ρ' H') : Go S' ρ H ρ' H' := ⟨g.sub, g.kp.like l, g.fr, g.nw, g.hd⟩
end
/-! ### try: body; except X as n: suite -/
/-- what a suite leaves -/
def suiteEnd (i : Nat) (h1 : Hea) : SRes → SRes
  | .rt v h2 => if (noExH h2 && v.noEx) = true then .rt v h2 else .stuck
  | .nx e2 h2 => if (noExH h2 && noExE (e2.set i none)) = true then .nx (e2.set i none) h2 else .stuck
  | _ => .stuck
def sTry1 (sub : Nat → Option Bool) (i : Nat) (fb fs : En → Hea → SRes) : En → Hea → SRes := fun e h => match fb e h with
  | .exc c d e1 h1 => match sub c with
    | some true => suiteEnd i h1 (fs (e1.set i (some (.exn c d))) h1)
    | some false => .exc c d e1 h1
    | none => .stuck
  | r => r
section
variable {T : Tb} {X : Cx} {W : WX} {x n : Str} {cv : Value} {i : Nat} {body suite : List Stmt} {b₀ : Stmt} {np pos pos' : Pos} {fb fs : En → Hea → SRes} {sub : Nat → Option Bool}
abbrev Tb.at (T : Tb) (a : Addr) (c : Nat) (dx : Addr) : Tb := { T with ex := some (a, c, dx) }
theorem like_at {a : Addr} {c : Nat} {dx : Addr} : (sy T X).like (sy (T.at a c dx) X) := ⟨rfl, rfl, rfl, rfl⟩
theorem like_off {a : Addr} {c : Nat} {dx : Addr} : (sy (T.at a c dx) X).like (sy T X) := ⟨rfl, rfl, rfl, rfl⟩
theorem ends_ok {i : Nat} {a : Addr} {c : Nat} {dx : Addr} {ρ : Own} {H : Hp} {h1 : Hea} {r : SRes} {D : Ends} (hx : T.ex = none) (R : Rel (sy T X) ρ h1 H) (q : AftS (sy T X) ρ H (suiteEnd i h1 r) D W) :
    AftS (sy (T.at a c dx) X) ρ H r { nx := fun σ' H' => D.nx (σ'.set i none) H', rt := D.rt, bk := fun σ' H' => D.bk (σ'.set i none) H', ct := fun σ' H' => D.ct (σ'.set i none) H' } W0 := by
  have hn := R.no hx
  cases r with
  | rt v h2 =>
    unfold suiteEnd at q
    dsimp only at q
    split at q
    · rename_i hb
      simp only [Bool.and_eq_true] at hb
      exact fun ρ1 u H1 s R1 r1 => q ρ1 u H1 (s.like like_off) (R1.like like_off (fun _ _ z => noExH_get hb.1 z)) (r1.like like_off hb.2)
    · exact q.elim
  | nx e2 h2 =>
    unfold suiteEnd at q
    dsimp only at q
    split at q
    · rename_i hb
      simp only [Bool.and_eq_true] at hb
      exact fun ρ1 σ1 H1 s R1 E1 => q ρ1 _ H1 (s.like like_off) (R1.like like_off (fun _ _ z => noExH_get hb.1 z)) ((E1.gone i).like like_off hb.2)
    · exact q.elim
  | bk e2 h2 => exact q.elim
  | ct e2 h2 => exact q.elim
  | exc c2 d2 e2 h2 => exact q.elim
  | stuck => exact q.elim
theorem st_try1 (hx : T.ex = none) (hs : X.stack = X.env :: X.outer) (hf : X.env.frame = some X.env.locals) (hN : X.N.Nodup) (hi : X.N[i]? = some n) (hln : X.env.kindOf n = some .local) (hc : Names X x cv) (tk : Takes X W)
    (hsub : ∀ c b, sub c = some b → PySem.W.exmOne X.K (.ref (T.ca c)) cv = some b)
    (hb : ∀ (W : WX) (pn : List (Addr × Obj)) (xe : Value → Shared → Prop), Takes (X.tr pn xe) W → PassesOwn (model X.prog X.w) X.A X.env xe → SSs T (X.tr pn xe) W body fb)
    (hsu : ∀ (a : Addr) (oe : Obj) (c : Nat) (dx : Addr) (pn : List (Addr × Obj)), sub c = some true → Zc (.ref (T.ca c)) (some dx) oe → (∃ vs, oe.data = .fields vs) → SSs (T.at a c dx) (X.suite a ((a, oe) :: pn)) W0 (b₀ :: suite) fs) :
    SSt T X W (.Try body [.ExceptHandler (some (.Name x np)) (some n) (b₀ :: suite) pos'] [] [] pos) (sTry1 sub i fb fs) := by
  refine PS.imp (ps_try_as (tb := fun W' => tS (sy T X) W' fb) (ts := fun a cls d D σ H => ∃ c dx, sub c = some true ∧ cls = .ref (T.ca c) ∧ d = some dx ∧ tS (sy (T.at a c dx) X) W0 fs D σ H) hs hf hN hi hln hc tk (fun W' pn xe tk' po => hb W' pn xe tk' po) (fun a oe cls d pn hz hff => ?_)) fun D σ H q => ?_
  · refine ⟨fun pins s σ H D I q => ?_⟩
    obtain ⟨c, dx, hsc, rfl, rfl, q⟩ := q
    exact (hsu a oe c dx pn hsc hz hff).run pins s σ H D I q
  · obtain ⟨ρ, e, h, R, E, a⟩ := q
    refine ⟨ρ, e, h, R, E, ?_⟩
    unfold sTry1 at a
    revert a
    cases fb e h with
    | nx e1 h1 => exact id
    | rt v h1 => exact id
    | bk e1 h1 => exact id
    | ct e1 h1 => exact id
    | stuck => exact id
    | exc c d e1 h1 =>
      intro a ρ1 v σ1 H1 dx s R1 r1 E1 hdx
      dsimp only at a
      cases hsb : sub c with
      | none => rw [hsb] at a; exact a.elim
      | some b =>
        rw [hsb] at a
        refine ⟨b, hsub c b hsb, fun hb1 ax hax => ?_, fun hb1 => ?_⟩
        · subst hb1
          refine ⟨c, dx, hsb, rfl, rfl, ρ1, _, h1, R1.like like_at (R1.no hx), ?_, ends_ok (W := W) hx R1 (AftS.later a s)⟩
          exact ER.set (S := sy (T.at ax c dx) X) (Rep.exn (S := sy (T.at ax c dx) X) rfl hdx (r1.like like_at (r1.no hx))) i (E1.like like_at (E1.no hx))
        · subst hb1
          exact a ρ1 v σ1 H1 dx s R1 r1 E1 hdx
end
/-! ### e.f in the suite -/
def oExF : Hea → Val → Option Val
  | _, .exn _ d => some d
  | _, _ => none
section
variable {T : Tb} {X : Cx} {a dx : Addr} {c : Nat} {oe : Obj} {pn : List (Addr × Obj)} {e : Expr} {f : En → Hea → Res Val} {pos : Pos} {nm : Str}
theorem se_xf (XC : XfC X.K (T.ca c)) (hno : PySem.W.findIn X.K (.ref (T.ca c)) nm = some none) (hnm : T.fld c = nm) (hz : Zc (.ref (T.ca c)) (some dx) oe) (hf : ∃ vs, oe.data = .fields vs) (he : SE (T.at a c dx) (X.suite a ((a, oe) :: pn)) W0 e f)
    (hb : attributeBase e nm X.env (eval e X.env) = eval e X.env := by rfl) : SE (T.at a c dx) (X.suite a ((a, oe) :: pn)) W0 (.Attribute e nm pos) (eUn oExF f) := (pe_xf XC hno hz hf he hb).imp fun σ H Q q => by
  obtain ⟨ρ, e, h, R, E, a1⟩ := tE.bind (f := f) (g := fun e x h1 => opt (oExF h1 x) h1) q
  refine ⟨ρ, e, h, R, E, a1.mono fun v H1 ⟨ρ1, e1, d1, h1, b1, a2⟩ => ?_⟩
  obtain ⟨R1, E1, r1⟩ := b1
  unfold oExF at a2
  split at a2
  · cases r1 with
    | exn h1 h2 r =>
      cases h1
      refine ⟨rfl, rfl, dx, _, _, rfl, h2, ?_, a2.same R1 r⟩
      subst hnm
      simp [List.lookup]
  · exact a2.elim
end
end Lad
end
/-! ## LadIs -/
section
set_option maxRecDepth 100000
set_option maxHeartbeats 2000000
namespace Lad
open PySem L2
/-! ### isinstance(e, c) in a suite -/
def rIsX (K : PySem.W.Frag) (D a dx : Addr) : List V → Hp → VK → Prop := fun xs H Q => ∃ (c : V) (cv : Value) (b : Bool) (fs : List (Str × V)), xs = [.ref a, c] ∧ (∀ u, RelV c u → u = cv) ∧ PySem.W.kitOne K (.ref D) cv = some b ∧ H dx = some (.xd fs) ∧ Q (.bl b) H
theorem call_isX {X : Cx} {a D dx : Addr} {oe : Obj} {pn : List (Addr × Obj)} (C : ExcC X.K D) (hz : Zc (.ref D) (some dx) oe) (hf : ∃ vs, oe.data = .fields vs) : CallR (X.suite a ((a, oe) :: pn)) (.builtin "isinstance") (rIsX X.K D a dx) := by
  intro pins s σ H xs us Q I r h
  obtain ⟨c, cv, b, fs, rfl, hcv, e, hdx, q⟩ := h
  match us, r with
  | [_, _], .cons rx (.cons rt .nil) =>
    cases rx
    obtain rfl := hcv _ rt
    obtain ⟨hget, _⟩ := I.pin (a, oe) (List.mem_append_left _ List.mem_cons_self)
    obtain ⟨vs, hd⟩ := hf
    have hx : ObjOk X.prog X.w H s.heap dx (.xd fs) := I.hok dx _ hdx
    obtain ⟨mA, hns, hr⟩ := hx
    obtain ⟨od, ho, hl⟩ := lookIn_ns hns
    have J : PySem.W.InstAt s.heap a oe D (some od) := ⟨hget, hz.1, by unfold PySem.W.notCls; rw [hd] <;> rfl, by rw [hz.2]; exact ho⟩
    have hcl : (PySem.W.clsIn X.K D).isSome = true := by
      have := C.hd
      unfold PySem.W.hasDictIn at this
      cases e : PySem.W.clsIn X.K D with
      | none => rw [e] at this; simp at this
      | some cd => rfl
    exact PySem.W.kia_one (PySem.W.kitx_exc hcl C.hg C.hk C.hs C.ha C.hn C.ht C.hm) I.kIn J e (fun z => nomatch z) fun tk => ⟨.bl b, H, I.kept (t' := tk) fun _ _ z => z, rfl, q⟩
def oIsX (tab : Nat → Option Bool) : Hea → Val → Option Val
  | _, .exn c _ => (tab c).map .bl
  | _, _ => none
section
variable {T : Tb} {X : Cx} {a dx : Addr} {c : Nat} {oe : Obj} {pn : List (Addr × Obj)} {e : Expr} {f : En → Hea → Res Val} {pos p p1 : Pos} {x : Str} {cV : V} {cv : Value} {tab : Nat → Option Bool}
theorem se_isX (C : ExcC X.K (T.ca c)) (hz : Zc (.ref (T.ca c)) (some dx) oe) (hf : ∃ vs, oe.data = .fields vs) (hm : X.mg "isinstance" = none) (he : SE (T.at a c dx) (X.suite a ((a, oe) :: pn)) W0 e f)
    (hc : PE (X.suite a ((a, oe) :: pn)) (.Name x p1) (tC cV)) (hcv : ∀ u, RelV cV u → u = cv) (ht : ∀ b, tab c = some b → PySem.W.kitOne X.K (.ref (T.ca c)) cv = some b) (hg : Gl X "isinstance" := by rfl)
    (hs : starEach (e :: [.Name x p1]) X.env = (false, eval e X.env) :: starEach [.Name x p1] X.env := by rfl) :
    SE (T.at a c dx) (X.suite a ((a, oe) :: pn)) W0 (.Call (.Name "isinstance" p) [e, .Name x p1] [] pos) (eUn (oIsX tab) f) := by
  refine PE.imp (pe_callB (call_isX C hz hf) hg hm (by decide +kernel) (pa_cons he (pa_cons hc pa_nil) hs) (he := hs)) fun σ H Q q => ?_
  obtain ⟨ρ, e, h, R, E, a1⟩ := tE.bind (f := f) (g := fun e x h1 => opt (oIsX tab h1 x) h1) q
  refine ⟨ρ, e, h, R, E, a1.mono fun v H1 ⟨ρ1, e1, d1, h1, b1, a2⟩ => ?_⟩
  obtain ⟨R1, E1, r1⟩ := b1
  show rIsX X.K (T.ca c) a dx [v, cV] H1 Q
  unfold oIsX at a2
  split at a2
  · cases r1 with
    | exn h1 h2 r =>
      cases h1
      cases ht1 : tab c with
      | none => rw [ht1] at a2; exact a2.elim
      | some b =>
        rw [ht1] at a2
        exact ⟨cV, cv, b, _, rfl, hcv, ht b ht1, h2, Aft.same (d := .bl b) a2 R1 (.bl b)⟩
  · exact a2.elim
end
end Lad
end
/-! ## LadB2 -/
section
set_option maxRecDepth 100000
set_option maxHeartbeats 2000000
namespace Lad
open PySem L2
/-! ### xs[i] = v, d[k] = v -/
def setIx (h : Hea) (o i v : Val) : Option Hea := match o, i with
  | .ref p, .int k => match h[p]? with
    | some (.lst xs) => match ixN xs.length k with
      | some j => some (h.set p (.lst (xs.set j v)))
      | none => none
    | _ => none
  | _, _ => none
def sSetIx (fv fo fi : En → Hea → Res Val) : En → Hea → SRes := fun e h => ofR ((fv e h).bind fun v h1 => (fo e h1).bind fun o h2 => (fi e h2).bind fun i h3 => match setIx h3 o i v with
    | some h4 => .ok Val.non h4
    | none => .stuck) e fun _ h4 => .nx e h4
section
variable {T : Tb} {X : Cx} {W : WX} {a o i : Expr} {fv fo fi : En → Hea → Res Val} {pos pos' : Pos}
theorem st_setIx (hv : SE T X W a fv) (ho : SE T X W o fo) (hi : SE T X W i fi)
    (ha : ∀ v, assign (.Subscript o i pos') X.env v = (do
      let ov ← holding [v] (eval o X.env)
      let iv ← holding [v, ov] (eval i X.env)
      standAt pos'
      holding [v, ov, iv] (setItem ov iv v)
      release [v, ov, iv] []) := by intro _; rfl)
    (hs : swapsWithSole [.Subscript o i pos'] a pos.line X.env = pure false := by rfl) (hw : swappedStores [.Subscript o i pos'] a X.env = pure none := by rfl)
    (h1 : (assignEach [.Subscript o i pos'] X.env).map (·.2) = [assign (.Subscript o i pos') X.env] := by rfl) : SSt T X W (.Assign [.Subscript o i pos'] a pos) (sSetIx fv fo fi) :=
  (ps_asg hv (pg_sub ho hi set_list ha) hs hw h1).imp fun D σ H q => by
    obtain ⟨ρ, e, h, R, E, a⟩ := q
    unfold sSetIx at a
    have a := (AftS.ofR a E).bind
    refine ⟨ρ, e, h, R, E, a.mono fun v H1 ⟨ρ1, d, h1, s, R1, r1, a1⟩ => ⟨ρ1, e, h1, R1, E.go s, a1.bind.mono fun ov H2 ⟨ρ2, od, h2, s2, R2, r2, a2⟩ => ⟨ρ2, e, h2, R2, (E.go s).go s2, a2.bind.mono fun iv H3 ⟨ρ3, id, h3, s3, R3, r3, a3⟩ => ?_⟩⟩⟩
    unfold setIx at a3
    split at a3
    · rename_i h4 hset
      split at hset
      · split at hset
        · rename_i xs hxs
          split at hset
          · rename_i j hj
            cases hset
            obtain ⟨p, rfl, ep⟩ := (r2.go s3).ref_
            obtain rfl := r3.int_
            have ob := R3.ob _ _ _ hxs ep
            cases ob with
            | @lst _ vs _ hl hr =>
              refine ⟨p, _, _, j, rfl, rfl, hl, by rw [← hr.length]; exact hj, ?_⟩
              have rv := (r1.go s2).go s3
              have kp : Mv (sy T X) ρ3 H3 ρ3 (upd H3 p (.lst (List.set vs j v))) := .put ep hl True.intro
              have R4 := R3.put (o := .lst (List.set vs j v)) (ob := .lst (List.set xs j d)) ep hl True.intro (.lst upd_same ((hr.set rv j).mono kp))
              have g4 : Go (sy T X) ρ3 H3 ρ3 (upd H3 p (.lst (List.set vs j v))) := .put ep hl True.intro
              obtain ⟨ρ5, d5, h5, s5, R5, r5, E5, a5⟩ := a3 ρ3 .non _ g4 R4 .non
              exact a5 ρ5 σ _ .rfl R5 E5
          · cases hset
        · cases hset
      · cases hset
    · exact a3.elim
end
/-! ### repr of a bool -/
def gReprB : Hea → List Val → Option Val
  | _, [.bl b] => some (.str (if b = true then "True" else "False"))
  | _, [.int i] => if i.natAbs.log2 < 1920 then some (.str (toString i)) else none
  | _, [.non] => some (.str "None")
  | _, [.str x] => if (PySem.reprText x).length ≤ 16777216 then some (.str (PySem.reprText x)) else none
  | _, _ => none
section
variable {T : Tb} {X : Cx}
theorem call_repr_non : CallR X (.builtin "repr") (fun xs H Q => xs = [.non] ∧ Q (.str "None") H) := by
  intro pins s σ H xs us Q I r h
  obtain ⟨rfl, q⟩ := h
  match us, r with
  | [_], .cons rb .nil =>
    cases rb
    exact PySem.P.repr_of_none ⟨.str _, H, I.tok _, ⟨_, rfl⟩, q⟩
theorem call_repr_str : CallR X (.builtin "repr") (fun xs H Q => ∃ x, xs = [.str x] ∧ (PySem.reprText x).length ≤ sizeLine ∧ Q (.str (PySem.reprText x)) H) := by
  intro pins s σ H xs us Q I r h
  obtain ⟨x, rfl, hz, q⟩ := h
  match us, r with
  | [_], .cons rb .nil =>
    obtain ⟨t, rfl⟩ := rb
    exact PySem.P.repr_of_str ⟨.str _, H, I.tok _, ⟨_, rfl⟩, q⟩ hz
theorem call_repr_bl : CallR X (.builtin "repr") (fun xs H Q => ∃ b, xs = [.bl b] ∧ Q (.str (if b = true then "True" else "False")) H) := by
  intro pins s σ H xs us Q I r h
  obtain ⟨b, rfl, q⟩ := h
  match us, r with
  | [_], .cons rb .nil =>
    cases rb
    exact PySem.P.repr_of_bool ⟨.str _, H, I.tok _, ⟨_, rfl⟩, q⟩
theorem g_reprB : CallR X (.builtin "repr") (rC (sy T X) gReprB) := CallR.imp (CallR.or call_repr_bl (CallR.or SkE.call_repr_int (CallR.or call_repr_non call_repr_str))) fun vs H Q h => by
  obtain ⟨ρ, h, ds, R, r, a⟩ := h
  unfold gReprB at a
  split at a
  · obtain rfl := Reps.bls (ns := [_]) r
    exact .inl ⟨_, rfl, Aft.same (d := .str _) a R (.str _)⟩
  · split at a
    · rename_i hl
      obtain rfl := Reps.ints (ns := [_]) r
      exact .inr (.inl ⟨_, rfl, hl, Aft.same (d := .str _) a R (.str _)⟩)
    · exact a.elim
  · match vs, r with
    | [_], .cons q .nil =>
      cases q
      exact .inr (.inr (.inl ⟨rfl, Aft.same (d := .str _) a R (.str _)⟩))
  · split at a
    · rename_i hl
      match vs, r with
      | [_], .cons q .nil =>
        cases q
        exact .inr (.inr (.inr ⟨_, rfl, by rw [sizeLine_eq]; exact hl, Aft.same (d := .str _) a R (.str _)⟩))
    · exact a.elim
  · exact a.elim
end
/-! ### a source that is a list or a tuple -/
def iSeq (f : En → Hea → Res Val) : En → Hea → Res Src := fun e h => (f e h).bind fun d h1 => match d with
  | .ref i => if (lstAt h1 i).isSome = true then .ok (srcLive i) h1 else .stuck
  | .tup xs => .ok (srcFix xs) h1
  | .lst xs => .ok (srcFix xs) h1
  | _ => .stuck
theorem pi_or {X : Cx} {tg e : Expr} {t u : TI} (h1 : PI X tg e t) (h2 : PI X tg e u) : PI X tg e (fun σ H R => t σ H R ∨ u σ H R) := ⟨fun pins s σ H R I q => by
  rcases q with q | q
  · exact h1.run pins s σ H R I q
  · exact h2.run pins s σ H R I q⟩
section
variable {T : Tb} {X : Cx} {W : WX} {tg a : Expr} {f : En → Hea → Res Val}
theorem si_seq (ha : SE T X W a f) : SI T X W tg a (iSeq f) := (pi_or (si_val (tg := tg) ha) (si_tup (tg := tg) ha)).imp fun σ H Q q => by
  obtain ⟨ρ, e, h, R, E, a⟩ := q
  by_cases hc : ∃ xs h1, f e h = .ok (.tup xs) h1
  · obtain ⟨xs, h1, hf⟩ := hc
    refine .inr ⟨ρ, e, h, R, E, ?_⟩
    unfold iSeq at a
    unfold iTupV
    rw [hf] at a ⊢
    exact a
  · refine .inl ⟨ρ, e, h, R, E, ?_⟩
    unfold iSeq at a
    unfold iVal
    cases hf : f e h with
    | ok d h1 =>
      rw [hf] at a
      cases d with
      | tup xs => exact absurd ⟨xs, h1, hf⟩ hc
      | _ => exact a
    | exc c d h1 => rw [hf] at a; exact a
    | stuck => rw [hf] at a; exact a
end
/-! ### slices of lists -/
section
variable {T : Tb} {X : Cx} {W : WX} {a : Expr} {f : En → Hea → Res Val} {p2 pos : Pos}
def eOpt (f : Option (En → Hea → Res Val)) (e : En) (h : Hea) : Res (Option Int) := match f with
  | none => .ok none h
  | some g => (g e h).bind fun i h3 => match i with | .int i => .ok (some i) h3 | _ => .stuck
def cutL (xs : List Val) (lo hi : Option Int) : List Val := (xs.drop (HT.sIx xs.length 0 lo)).take (HT.sIx xs.length xs.length hi - HT.sIx xs.length 0 lo)
/-- xs[lo:hi], xs a list -/
def lCut (f : En → Hea → Res Val) (lo hi : Option (En → Hea → Res Val)) : En → Hea → Res (List Val) := fun e h => (f e h).bind fun d h1 => (eOpt lo e h1).bind fun l h2 => (eOpt hi e h2).bind fun u h3 => match lstOf h3 d with
  | some xs => .ok (cutL xs l u) h3
  | none => .stuck
/-- t[lo:hi], t a tuple (not the whole of it) -/
def eCut (f : En → Hea → Res Val) (lo hi : Option (En → Hea → Res Val)) : En → Hea → Res Val := fun e h => (f e h).bind fun d h1 => (eOpt lo e h1).bind fun l h2 => (eOpt hi e h2).bind fun u h3 => match d with
  | .tup xs => if HT.sIx xs.length 0 l = 0 ∧ HT.sIx xs.length xs.length u = xs.length then .stuck else .ok (.tup (cutL xs l u)) h3
  | _ => .stuck
abbrev SO (T : Tb) (X : Cx) (W : WX) (e : Option Expr) (f : Option (En → Hea → Res Val)) : Prop := match e, f with
  | none, none => True
  | some e, some f => SE T X W e f
  | _, _ => False
def tO (S : Sy) (W : WX) (f : Option (En → Hea → Res Val)) : TO := fun σ H Q => ∃ ρ e h, Rel S ρ h H ∧ ER S ρ H e σ ∧ (match eOpt f e h with
  | .ok l h' => ∀ ρ' H', Go S ρ H ρ' H' → Rel S ρ' h' H' → Q l H'
  | .exc c d h' => ∀ ρ' v H' dx, Go S ρ H ρ' H' → Rel S ρ' h' H' → Rep S ρ' H' d v → H' dx = some (.xd [(S.fld c, v)]) → W (.ref (S.ca c)) (some dx) σ H'
  | .stuck => False)
theorem so_none : PO X none (tO (sy T X) W none) := ⟨fun pins s σ H Q I q => po_none.run pins s σ H Q I (by
  obtain ⟨ρ, e, h, R, E, a⟩ := q
  exact a ρ H .rfl R)⟩
theorem so_some {e : Expr} (he : SE T X W e f) : PO X (some e) (tO (sy T X) W (some f)) := ⟨fun pins s σ H Q I q => (po_some he).run pins s σ H Q I (by
  obtain ⟨ρ, e, h, R, E, a⟩ := q
  refine ⟨ρ, e, h, R, E, ?_⟩
  unfold eOpt at a
  revert a
  dsimp only
  cases f e h with
  | ok d h1 =>
    intro a ρ1 v H1 s R1 r1
    cases d with
    | int i =>
      obtain rfl := r1.int_
      exact ⟨i, rfl, a ρ1 H1 s R1⟩
    | _ => exact a.elim
  | exc c d h1 => exact fun a => a
  | stuck => exact fun a => a)⟩
end
end Lad
end
/-! ## LadSl -/
section
set_option maxRecDepth 100000
set_option maxHeartbeats 2000000
namespace Lad
open PySem L2
theorem Reps.slc {S : Sy} {ρ : Own} {H : Hp} {xs : List Val} {vs : List V} (r : Reps S ρ H xs vs) (lo hi : Option Int) : Reps S ρ H (cutL xs lo hi) (cutV vs lo hi) := by
  unfold cutL cutV
  rw [r.length]
  exact (r.drop _).take _
section
variable {S : Sy} {ρ : Own} {H : Hp} {f : Option (En → Hea → Res Val)} {e : En} {h : Hea} {W : XK}
def AftO (S : Sy) (ρ : Own) (H : Hp) (r : Res (Option Int)) (Q : Option Int → Hp → Prop) (W : XK) : Prop := match r with
  | .ok l h' => ∀ ρ' H', Go S ρ H ρ' H' → Rel S ρ' h' H' → Q l H'
  | .exc c d h' => ∀ ρ' v H' dx, Go S ρ H ρ' H' → Rel S ρ' h' H' → Rep S ρ' H' d v → H' dx = some (.xd [(S.fld c, v)]) → W (.ref (S.ca c)) (some dx) H'
  | .stuck => False
theorem AftO.bind {r : Res (Option Int)} {k : Option Int → Hea → Res Val} {Q : VK} (a : Aft S ρ H (r.bind k) Q W) : AftO S ρ H r (fun l H1 => ∃ ρ1 h1, Go S ρ H ρ1 H1 ∧ Rel S ρ1 h1 H1 ∧ Aft S ρ1 H1 (k l h1) Q W) W := by
  cases r with
  | ok l h => exact fun ρ1 H1 s R => ⟨ρ1, h, s, R, Aft.later (r := k l h) a s⟩
  | exc c d h => exact a
  | stuck => exact a
theorem AftO.bindL {r : Res (Option Int)} {k : Option Int → Hea → Res (List Val)} {Q : VK} (a : AftL S ρ H (r.bind k) Q W) : AftO S ρ H r (fun l H1 => ∃ ρ1 h1, Go S ρ H ρ1 H1 ∧ Rel S ρ1 h1 H1 ∧ AftL S ρ1 H1 (k l h1) Q W) W := by
  cases r with
  | ok l h => exact fun ρ1 H1 s R => ⟨ρ1, h, s, R, AftL.later (r := k l h) a s⟩
  | exc c d h => exact a
  | stuck => exact a
theorem AftO.mono {r : Res (Option Int)} {Q Q' : Option Int → Hp → Prop} (a : AftO S ρ H r Q W) (h : ∀ v H', Q v H' → Q' v H') : AftO S ρ H r Q' W := by
  cases r with
  | ok l h1 => exact fun ρ1 H1 s R => h _ _ (a ρ1 H1 s R)
  | exc c d h => exact a
  | stuck => exact a
end
section
variable {T : Tb} {X : Cx} {W : WX} {a : Expr} {lo hi : Option Expr} {f : En → Hea → Res Val} {l u : Option (En → Hea → Res Val)} {p2 pos : Pos}
/-- xs[lo:hi] of a list, to be used at once -/
theorem sl_cut (ha : SE T X W a f) (hl : PO X lo (tO (sy T X) W l)) (hu : PO X hi (tO (sy T X) W u)) : SL T X W (.Subscript a (.Slice lo hi none p2) pos) (lCut f l u) :=
  (pe_slice L2.sl_list ha hl hu).imp fun σ H Q q => by
    obtain ⟨ρ, e, h, R, E, a⟩ := q
    unfold lCut at a
    refine ⟨ρ, e, h, R, E, (AftL.bind1 a).mono fun v H1 ⟨ρ1, d, h1, s, R1, r1, a1⟩ => ⟨ρ1, e, h1, R1, E.go s, (AftO.bindL a1).mono fun lv H2 ⟨ρ2, h2, s2, R2, a2⟩ => ⟨ρ2, e, h2, R2, (E.go s).go s2, (AftO.bindL a2).mono fun uv H3 ⟨ρ3, h3, s3, R3, a3⟩ => ?_⟩⟩⟩
    split at a3
    · rename_i xs hx
      obtain ⟨p, vs, ev, sq, rr⟩ := R3.lstV ((r1.go s2).go s3) hx
      exact ⟨p, vs, ev, sq, fun l n => a3.made R3 (rr.slc lv uv) l n⟩
    · exact a3.elim
/-- t[lo:hi] of a tuple -/
def eCutT (f : En → Hea → Res Val) (lo hi : Option (En → Hea → Res Val)) : En → Hea → Res Val := fun e h => (f e h).bind fun d h1 => (eOpt lo e h1).bind fun l h2 => (eOpt hi e h2).bind fun u h3 => match d with
  | .tup xs => .ok (.tup (cutL xs l u)) h3
  | _ => .stuck
theorem cutL_whole {xs : List Val} {l u : Option Int} (h : HT.sIx xs.length 0 l = 0 ∧ HT.sIx xs.length xs.length u = xs.length) : cutL xs l u = xs := by
  unfold cutL
  rw [h.1, h.2]
  simp
theorem se_cut (ha : SE T X W a f) (hl : PO X lo (tO (sy T X) W l)) (hu : PO X hi (tO (sy T X) W u)) : SE T X W (.Subscript a (.Slice lo hi none p2) pos) (eCutT f l u) :=
  (pe_slice L2.sl_tupA ha hl hu).imp fun σ H Q q => by
    obtain ⟨ρ, e, h, R, E, a⟩ := q
    unfold eCutT at a
    refine ⟨ρ, e, h, R, E, a.bind.mono fun v H1 ⟨ρ1, d, h1, s, R1, r1, a1⟩ => ⟨ρ1, e, h1, R1, E.go s, (AftO.bind a1).mono fun lv H2 ⟨ρ2, h2, s2, R2, a2⟩ => ⟨ρ2, e, h2, R2, (E.go s).go s2, (AftO.bind a2).mono fun uv H3 ⟨ρ3, h3, s3, R3, a3⟩ => ?_⟩⟩⟩
    have r3 := (r1.go s2).go s3
    split at a3
    · rename_i xs
      cases r3 with
      | tup ht hr =>
        refine ⟨_, _, rfl, ht, fun hw => ?_, fun hw p n => ?_⟩
        · rw [← hr.length] at hw
          rw [cutL_whole hw] at a3
          exact a3.same R3 (.tup ht hr)
        · exact a3.tup R3 (hr.slc lv uv) p n
    · exact a3.elim
end
end Lad
end
/-! ## LadMod -/
section
set_option maxRecDepth 100000
set_option maxHeartbeats 2000000
namespace Lad
open PySem L2
open PySem.W (Frag)
/-! ### constants of the module -/
def all2 {α β : Type} (f : α → β → Bool) : List α → List β → Bool
  | [], [] => true
  | a :: as, b :: bs => f a b && all2 f as bs
  | _, _ => false
def cstB : Nat → Frag → Val → Value → Bool
  | _, _, .non, .none => true
  | _, _, .bl b, .bool c => b == c
  | _, _, .int i, .int j _ => decide (i = j)
  | _, _, .str x, .str y _ => decide (x = y)
  | n + 1, K, .tup ds, .ref a => (match K.lookup a with
    | some ⟨.type c, _, .seq its _, _⟩ => decide (c = "tuple") && (decide (its.size ≤ sizeLine) && all2 (cstB n K) ds its.toList)
    | _ => false)
  | _, _, _, _ => false
def CstV (K : Frag) (d : Val) (u : Value) : Prop := ∃ v, RelV v u ∧ ∀ (S : Sy) (ρ : Own) (H : Hp), S.K = K → Rep S ρ H d v
theorem all2_cst {n : Nat} {K : Frag} (ih : ∀ (d : Val) (u : Value), cstB n K d u = true → CstV K d u) : ∀ (ds : List Val) (us : List Value), all2 (cstB n K) ds us = true → ∃ vs, Vals vs us ∧ ∀ (S : Sy) (ρ : Own) (H : Hp), S.K = K → Reps S ρ H ds vs
  | [], [], _ => ⟨[], .nil, fun _ _ _ _ => .nil⟩
  | [], _ :: _, h => by cases h
  | _ :: _, [], h => by cases h
  | d :: ds, u :: us, h => by
    obtain ⟨h1, h2⟩ := Bool.and_eq_true_iff.mp (show (cstB n K d u && all2 (cstB n K) ds us) = true from h)
    obtain ⟨v, r, q⟩ := ih d u h1
    obtain ⟨vs, rs, qs⟩ := all2_cst ih ds us h2
    exact ⟨v :: vs, .cons r rs, fun S ρ H e => .cons (q S ρ H e) (qs S ρ H e)⟩
theorem cstB_ok : ∀ (n : Nat) (K : Frag) (d : Val) (u : Value), cstB n K d u = true → CstV K d u := by
  intro n
  induction n with
  | zero =>
    intro K d u h
    unfold cstB at h
    split at h
    · exact ⟨.non, rfl, fun _ _ _ _ => .non⟩
    · obtain rfl := eq_of_beq h
      exact ⟨.bl _, rfl, fun _ _ _ _ => .bl _⟩
    · obtain rfl := of_decide_eq_true h
      exact ⟨.int _, ⟨_, rfl⟩, fun _ _ _ _ => .int _⟩
    · obtain rfl := of_decide_eq_true h
      exact ⟨.str _, ⟨_, rfl⟩, fun _ _ _ _ => .str _⟩
    · rename_i e; first | (exact absurd ‹0 = Nat.succ _› (by simp)) | (exact nomatch ‹0 = Nat.succ _›)
    · cases h
  | succ n ih =>
    intro K d u h
    unfold cstB at h
    split at h
    · exact ⟨.non, rfl, fun _ _ _ _ => .non⟩
    · obtain rfl := eq_of_beq h
      exact ⟨.bl _, rfl, fun _ _ _ _ => .bl _⟩
    · obtain rfl := of_decide_eq_true h
      exact ⟨.int _, ⟨_, rfl⟩, fun _ _ _ _ => .int _⟩
    · obtain rfl := of_decide_eq_true h
      exact ⟨.str _, ⟨_, rfl⟩, fun _ _ _ _ => .str _⟩
    · rename_i m ds a e
      cases e
      split at h
      · rename_i c od its k osl lk
        simp only [Bool.and_eq_true] at h
        obtain ⟨h1, h2, h3⟩ := h
        have h1 := of_decide_eq_true h1
        have h2 := of_decide_eq_true h2
        subst h1
        obtain ⟨vs, rv, q⟩ := all2_cst (ih _) ds its.toList h3
        exact ⟨.ref a, rfl, fun S ρ H e => .tup (.inr ⟨_, its, k, by rw [e]; exact lk, rfl, rfl, h2, rv⟩) (q S ρ H e)⟩
      · cases h
    · cases h
/-- the module's name x stands for d -/
def conB (x : Str) (d : Val) (K : Frag) : Bool := match PySem.W.nsIn K mainGlobals x with
  | some (some u) => cstB 8 K d u
  | _ => false
def ConOk (K : Frag) (mg : Str → Option Value) (x : Str) (d : Val) : Prop := ∃ u, mg x = some u ∧ CstV K d u
theorem conB_ok {K : Frag} {h : Heap} {mg : Str → Option Value} {x : Str} {d : Val} (X : K.In h) (G : h.Ns mainGlobals mg) (c : conB x d K = true) : ConOk K mg x d := by
  unfold conB at c
  split at c
  · rename_i u e
    exact ⟨u, PySem.W.mg_of X G e, cstB_ok 8 K d u c⟩
  · cases c
section
variable {T : Tb} {X : Cx} {W : WX} {x : Str} {d : Val} {pos : Pos}
theorem se_con (c : ConOk X.K X.mg x d) (hg : Gl X x := by rfl) (hd : (x == ("__debug__" : Str)) = false := by decide) : SE T X W (.Name x pos) (eC d) := by
  obtain ⟨u, m, v, r, q⟩ := c
  exact se_cst (pe_glob hg m r hd) fun ρ H => q _ ρ H rfl
end
/-! ### enumerate, zip -/
def enumV (xs : List Val) (k : Nat) : Option Val := xs[k]?.map fun x => Val.tup [.int (k : Nat), x]
def srcEnum (i : Nat) : Src := ⟨fun k h => (lstAt h i).map fun xs => enumV xs k, 100000, none, fun _ h => nomatch h⟩
def enumFrom : Nat → List Val → List Val
  | _, [] => []
  | k, x :: xs => .tup [.int (k : Nat), x] :: enumFrom (k + 1) xs
theorem enumFrom_at : ∀ (xs : List Val) (j k : Nat), (enumFrom j xs)[k]? = xs[k]?.map fun x => Val.tup [.int ((j + k : Nat) : Int), x]
  | [], _, _ => rfl
  | x :: xs, j, 0 => rfl
  | x :: xs, j, k + 1 => by
    show (enumFrom (j + 1) xs)[k]? = xs[k]?.map _
    rw [enumFrom_at xs (j + 1) k]
    congr 1
    funext y
    have : j + 1 + k = j + (k + 1) := by omega
    rw [this]
theorem enumFrom_len : ∀ (xs : List Val) (j : Nat), (enumFrom j xs).length = xs.length
  | [], _ => rfl
  | _ :: xs, j => congrArg (· + 1) (enumFrom_len xs (j + 1))
theorem enumFrom0 (xs : List Val) (k : Nat) : (enumFrom 0 xs)[k]? = enumV xs k := by
  rw [enumFrom_at]
  unfold enumV
  congr 1
  funext y
  rw [Nat.zero_add]
def srcEnumF (xs : List Val) : Src := srcFix (enumFrom 0 xs)
def iEnumV (f : En → Hea → Res Val) : En → Hea → Res Src := fun e h => (f e h).bind fun d h1 => match d with
  | .ref i => if (lstAt h1 i).isSome = true then .ok (srcEnum i) h1 else .stuck
  | .lst xs => .ok (srcEnumF xs) h1
  | _ => .stuck
def iEnumL (f : En → Hea → Res (List Val)) : En → Hea → Res Src := fun e h => (f e h).bind fun xs h1 => .ok (srcEnumF xs) h1
section
variable {S : Sy} {H : Hp} {ρ : Own}
theorem j_en1 {a : Addr} {xs : List Val} {vs : List V} {H' : Hp} {ρ' : Own} {h' : Hea} {k : Nat} (R : Rel S ρ' h' H') (sq : SqL S.K H' a vs) (r : Reps S ρ' H' xs vs) : match some (enumV xs k) with
    | some none => (Ite S.K a).stop k H'
    | some (some d) => (Ite S.K a).go k H' ∧ ∀ x H'', (Ite S.K a).yld k H' x H'' → Go S ρ' H' ρ' H'' ∧ Rel S ρ' h' H'' ∧ Rep S ρ' H'' d x
    | none => True := by
  unfold enumV
  cases e : xs[k]? with
  | none =>
    have hk : xs.length ≤ k := List.getElem?_eq_none_iff.mp e
    exact ⟨vs, sq, by rw [← r.length]; exact hk⟩
  | some d =>
    obtain ⟨v, ev, rv⟩ := r.get e
    refine ⟨⟨vs, v, sq, ev⟩, fun x H'' ⟨t, y, ex, nt, eh, q⟩ => ?_⟩
    have z := q vs sq
    rw [ev] at z
    cases z
    subst ex eh
    exact ⟨.side nt, R.side nt, .tup (.inl (.inl upd_same)) (.cons (.int _) (.cons (rv.mono (.side nt)) .nil))⟩
theorem j_enum {a : Addr} {i : Nat} (ea : ρ.nm[i]? = some a) : JOk S ρ H (Ite S.K a) (srcEnum i).item := fun ρ' H' h' g R k => by
  show match (lstAt h' i).map fun xs => enumV xs k with | some none => _ | some (some d) => _ | none => _
  cases el : lstAt h' i with
  | none => exact True.intro
  | some xs =>
    obtain ⟨vs, sq', r'⟩ := R.lst el (g.sub _ _ ea)
    exact j_en1 R sq' r'
theorem j_enumF {a : Addr} {xs : List Val} {vs : List V} (sq : H a = some (.lst vs)) (n : Fz ρ a) (r : Reps S ρ H xs vs) : JOk S ρ H (Ite S.K a) (srcEnumF xs).item := jfix fun ρ' H' h' g R k _ => by
  have e' := (g.fz _ _ sq n).1
  rw [enumFrom0]
  exact j_en1 R (.inl (.inl e')) (r.mono g)
end
section
variable {T : Tb} {X : Cx} {W : WX} {tg a b c : Expr} {f : En → Hea → Res Val} {g : En → Hea → Res (List Val)} {pos p tpos : Pos} {elts : List Expr} {kk : Nat}
theorem si_enum (hg : Gl X "enumerate") (hm : X.mg "enumerate" = none) (ha : SE T X W a f) (hs : starEach [a] X.env = [(false, eval a X.env)] := by rfl) : SI T X W (.Tuple elts kk tpos) (.Call (.Name "enumerate" p) [a] [] pos) (iEnumV f) :=
  (pi_enum hg hm (pa_cons ha pa_nil hs) hs).imp fun σ H Q q => by
    obtain ⟨ρ, e, h, R, E, a⟩ := q
    refine ⟨ρ, e, h, R, E, (AftI.bind a).mono fun v H1 ⟨ρ1, d, h1, s, R1, r, a1⟩ => ?_⟩
    split at a1
    · obtain ⟨p, rfl, ea⟩ := r.ref_
      split at a1
      · rename_i i hs
        obtain ⟨xs, hx⟩ := Option.isSome_iff_exists.mp hs
        obtain ⟨vs, sq, _⟩ := R1.lst hx ea
        exact ⟨p, vs, rfl, sq, a1 ρ1 H1 _ .rfl R1 (j_enum ea)⟩
      · exact a1.elim
    · cases r with
      | lst f h1 h2 => exact ⟨_, _, rfl, .inl (.inl h1), a1 ρ1 H1 _ .rfl R1 (j_enumF h1 f h2)⟩
    · exact a1.elim
theorem si_enumL (hg : Gl X "enumerate") (hm : X.mg "enumerate" = none) (ha : SL T X W a g) (hs : starEach [a] X.env = [(false, eval a X.env)] := by rfl) : SI T X W (.Tuple elts kk tpos) (.Call (.Name "enumerate" p) [a] [] pos) (iEnumL g) :=
  (pi_enum hg hm (pa_cons ha pa_nil hs) hs).imp fun σ H Q q => by
    obtain ⟨ρ, e, h, R, E, a⟩ := q
    refine ⟨ρ, e, h, R, E, (AftI.bindL a).mono fun v H1 ⟨ρ1, d, h1, p, vs, s, R1, ev, el, n, r, a1⟩ => ?_⟩
    subst ev
    exact ⟨p, vs, rfl, .inl (.inl el), a1 ρ1 H1 _ .rfl R1 (j_enumF el n r)⟩
end
theorem Reps.append {S : Sy} {ρ : Own} {H : Hp} : ∀ {ds es : List Val} {vs us : List V}, Reps S ρ H ds vs → Reps S ρ H es us → Reps S ρ H (ds ++ es) (vs ++ us)
  | _, _, _, _, .nil, q => q
  | _, _, _, _, .cons r t, q => .cons r (Reps.append t q)
/-! ### xs.append(e) -/
def eApp (f g : En → Hea → Res Val) : En → Hea → Res Val := fun e h => (f e h).bind fun o h1 => match o with
  | .ref i => match h1[i]? with
    | some (.lst _) => (g e h1).bind fun y h2 => match h2[i]? with
      | some (.lst xs) => if xs.length < 16777216 then .ok .non (h2.set i (.lst (xs ++ [y]))) else .stuck
      | _ => .stuck
    | _ => .stuck
  | _ => .stuck
section
variable {T : Tb} {X : Cx} {W : WX} {o a : Expr} {f g : En → Hea → Res Val} {apos cpos : Pos}
theorem se_app (ho : SE T X W o f) (ha : SE T X W a g)
    (hbase : attributeBase o "append" X.env (eval o X.env) = eval o X.env := by rfl)
    (hfew : ((backTo cpos (starEach (a :: []) X.env)).all (fun x => !x.1) && (backToKw cpos (keywordEach [] X.env)).all (fun x => x.1.isSome)
      && decide ((a :: []).length + ([] : List Keyword).length + (if ([] : List Keyword).isEmpty then 0 else 1) < 30)) = true := by rfl)
    (hline : (apos.endLine == cpos.line) = true := by rfl) (hs : starEach (a :: []) X.env = (false, eval a X.env) :: starEach [] X.env := by rfl) (hplain : (backTo cpos (starEach [] X.env)).any (·.1) = false := by rfl) :
    SE T X W (.Call (.Attribute o "append" apos) [a] [] cpos) (eApp f g) :=
  (pe_bm PySem.F.plainAttrs_list PySem.F.slot_list_append PySem.F.type_list_append mt_append ho (pa_cons ha pa_nil hs) hbase hfew hline hs hplain).imp fun σ H Q q => by
    obtain ⟨ρ, e, h, R, E, a⟩ := q
    unfold eApp at a
    refine ⟨ρ, e, h, R, E, a.bind.mono fun ov H1 ⟨ρ1, od, h1, s, R1, r1, a1⟩ => ?_⟩
    split at a1
    · rename_i i
      split at a1
      · rename_i xs0 hx0
        obtain ⟨p, rfl, ep⟩ := r1.ref_
        have ob := R1.ob _ _ _ hx0 ep
        cases ob with
        | @lst _ vs0 _ hl0 hr0 =>
          refine ⟨.inl ⟨rfl, vs0, .inl (.inl hl0)⟩, ρ1, e, h1, R1, E.go s, a1.bind.mono fun yv H2 ⟨ρ2, yd, h2, s2, R2, r2, a2⟩ => ?_⟩
          split at a2
          · rename_i xs hx
            split at a2
            · rename_i hlen
              have ep2 := s2.sub _ _ ep
              have ob2 := R2.ob _ _ _ hx ep2
              cases ob2 with
              | @lst _ vs _ hl hr =>
                refine ⟨p, vs, yv, rfl, rfl, hl, by rw [sizeLine_eq, ← hr.length]; exact hlen, ?_⟩
                have kp : Mv (sy T X) ρ2 H2 ρ2 (upd H2 p (.lst (vs ++ [yv]))) := .put ep2 hl True.intro
                have R4 := R2.put (o := .lst (vs ++ [yv])) (ob := .lst (xs ++ [yd])) ep2 hl True.intro (.lst upd_same ((hr.append (.cons r2 .nil)).mono kp))
                exact a2 ρ2 .non _ (.put ep2 hl True.intro) R4 .non
            · exact a2.elim
          · exact a2.elim
      · exact a1.elim
    · exact a1.elim
end
end Lad
end
/-! ## LadOb -/
section
set_option maxRecDepth 100000
set_option maxHeartbeats 2000000
namespace Lad
open PySem L2
open PySem.W (Frag)
/-! ### fields of instances -/
def NmOk (T : Tb) : Prop := ∀ m n : Nat, m < 100 → n < 100 → T.nm m = T.nm n → m = n
def lkF : List (Nat × Val) → Nat → Option Val
  | [], _ => none
  | (m, d) :: r, n => if m = n then some d else if m < 100 then lkF r n else none
def noF : List (Nat × Val) → Nat → Bool
  | [], _ => true
  | (m, _) :: r, n => if m = n then false else if m < 100 then noF r n else false
def putN (n : Nat) (d : Val) : List (Nat × Val) → Option (List (Nat × Val))
  | [] => some [(n, d)]
  | (m, x) :: r => if m = n then some ((m, d) :: r) else if m < 100 then (putN n d r).map ((m, x) :: ·) else none
section
variable {T : Tb} {K : Frag} {ex : Option (Addr × Nat × Addr)} {ρ : Own} {H : Hp}
theorem FsR.look {S : Sy} (nk : ∀ m n : Nat, m < 100 → n < 100 → S.nm m = S.nm n → m = n) {n : Nat} (hn : n < 100) : ∀ {fs : List (Nat × Val)} {vs : List (Str × V)} {d : Val}, FsR S ρ H fs vs → lkF fs n = some d → ∃ v, vs.lookup (S.nm n) = some v ∧ Rep S ρ H d v
  | _, _, d, .nil, e => by cases e
  | _, _, d, .cons (n := m) (d := d') (v := v) (ds := ds) (vs := vs) r t, e => by
    unfold lkF at e
    by_cases hm : m = n
    · subst hm
      rw [if_pos rfl] at e
      cases e
      exact ⟨v, by rw [List.lookup_cons]; simp, r⟩
    · rw [if_neg hm] at e
      by_cases hb : m < 100
      · rw [if_pos hb] at e
        obtain ⟨u, h1, h2⟩ := FsR.look nk hn t e
        refine ⟨u, ?_, h2⟩
        have hne : (S.nm n == S.nm m) = false := by
          cases q : S.nm n == S.nm m with
          | false => rfl
          | true => exact absurd (nk m n hb hn (eq_of_beq q).symm) hm
        rw [List.lookup_cons, hne]
        exact h1
      · rw [if_neg hb] at e
        cases e
theorem FsR.lookNo {S : Sy} (nk : ∀ m n : Nat, m < 100 → n < 100 → S.nm m = S.nm n → m = n) {n : Nat} (hn : n < 100) : ∀ {fs : List (Nat × Val)} {vs : List (Str × V)}, FsR S ρ H fs vs → noF fs n = true → vs.lookup (S.nm n) = none
  | _, _, .nil, e => rfl
  | _, _, .cons (n := m) (d := d') (v := v) (ds := ds) (vs := vs) r t, e => by
    unfold noF at e
    by_cases hm : m = n
    · rw [if_pos hm] at e
      cases e
    · rw [if_neg hm] at e
      by_cases hb : m < 100
      · rw [if_pos hb] at e
        have hne : (S.nm n == S.nm m) = false := by
          cases q : S.nm n == S.nm m with
          | false => rfl
          | true => exact absurd (nk m n hb hn (eq_of_beq q).symm) hm
        rw [List.lookup_cons, hne]
        exact FsR.lookNo nk hn t e
      · rw [if_neg hb] at e
        cases e
theorem FsR.put {S : Sy} (nk : ∀ m n : Nat, m < 100 → n < 100 → S.nm m = S.nm n → m = n) {n : Nat} (hn : n < 100) {d : Val} {v : V} (rv : Rep S ρ H d v) : ∀ {fs gs : List (Nat × Val)} {vs : List (Str × V)}, FsR S ρ H fs vs → putN n d fs = some gs → FsR S ρ H gs (putF (S.nm n) v vs)
  | _, _, _, .nil, e => by
    cases e
    exact .cons rv .nil
  | _, gs, _, .cons (n := m) (d := d') (v := v') (ds := ds) (vs := vs) r t, e => by
    unfold putN at e
    by_cases hm : m = n
    · subst hm
      rw [if_pos rfl] at e
      cases e
      unfold putF
      rw [if_pos rfl]
      exact .cons rv t
    · rw [if_neg hm] at e
      by_cases hb : m < 100
      · rw [if_pos hb] at e
        cases q : putN n d ds with
        | none => rw [q] at e; cases e
        | some g2 =>
          rw [q] at e
          cases e
          have hne : ¬ S.nm m = S.nm n := fun z => hm (nk m n hb hn z)
          unfold putF
          rw [if_neg hne]
          exact .cons r (FsR.put nk hn rv t q)
      · rw [if_neg hb] at e
        cases e
theorem FsR.length {S : Sy} : ∀ {fs : List (Nat × Val)} {vs : List (Str × V)}, FsR S ρ H fs vs → fs.length = vs.length
  | _, _, .nil => rfl
  | _, _, .cons _ t => by simp [FsR.length t]
end
/-- an instance, to be read -/
def insOf (h : Hea) : Val → Option (Nat × List (Nat × Val))
  | .obj c ns vs => some (c, ns.zip vs)
  | .ref i => match h[i]? with
    | some (.ins c fs) => some (c, fs)
    | _ => none
  | _ => none
theorem FsR.zip {S : Sy} {ρ : Own} {H : Hp} : ∀ {ns : List Nat} {ds : List Val} {ps : List (Str × V)}, ps.map (·.1) = ns.map S.nm → Reps S ρ H ds (ps.map (·.2)) → FsR S ρ H (ns.zip ds) ps
  | [], ds, [], _, r => by cases r; exact .nil
  | [], ds, p :: ps, e, _ => by cases e
  | n :: ns, ds, [], e, _ => by cases e
  | n :: ns, _, p :: ps, e, .cons r t => by
    obtain ⟨x, v⟩ := p
    simp only [List.map_cons, List.cons.injEq] at e
    obtain ⟨rfl, e⟩ := e
    exact .cons r (FsR.zip e t)
theorem ins_of {S : Sy} {ρ : Own} {H : Hp} {h : Hea} {d : Val} {v : V} {c : Nat} {fs : List (Nat × Val)} (R : Rel S ρ h H) (r : Rep S ρ H d v) (e : insOf h d = some (c, fs)) : ∃ a dx ps, v = .ref a ∧ H a = some (.ins (S.ca c) dx ps) ∧ FsR S ρ H fs ps := by
  unfold insOf at e
  split at e
  · cases e
    cases r with
    | obj f h1 e1 e2 r => subst e2; exact ⟨_, _, _, rfl, h1, FsR.zip e1 r⟩
  · obtain ⟨p, rfl, ep⟩ := r.ref_
    split at e
    · rename_i hx
      cases e
      have o := R.ob _ _ _ hx ep
      cases o with
      | ins h1 h2 => exact ⟨p, _, _, rfl, h1, h2⟩
    · cases e
  · cases e
/-- e.f -/
def eFld (ok : Nat → Bool) (n : Nat) (f : En → Hea → Res Val) : En → Hea → Res Val := fun e h => (f e h).bind fun o h1 => match insOf h1 o with
  | some (c, fs) => if ok c = true then (match lkF fs n with
    | some d => .ok d h1
    | none => .stuck) else .stuck
  | none => .stuck
/-- e.f = value -/
def sFldV (ok : Nat → Bool) (n : Nat) (fo fv : En → Hea → Res Val) : En → Hea → SRes := fun e h => ofR ((fv e h).bind fun v h1 => (fo e h1).bind fun o h2 => match o with
  | .ref i => match h2[i]? with
    | some (.ins c fs) => if ok c = true ∧ fs.length < 1000 then (match putN n v fs with
      | some gs => .ok Val.non (h2.set i (.ins c gs))
      | none => .stuck) else .stuck
    | _ => .stuck
  | _ => .stuck) e fun _ h3 => .nx e h3
section
variable {T : Tb} {X : Cx} {W : WX} {a o : Expr} {f g : En → Hea → Res Val} {pos pos' : Pos} {ok : Nat → Bool} {n : Nat} {fn : Str}
theorem se_fld (nk : NmOk T) (hn : n < 100) (hf : T.nm n = fn) (hok : ∀ c, ok c = true → Cls X.K (T.ca c) ∧ NoAttr X.K (T.ca c) fn) (ha : SE T X W a f) (hb : attributeBase a fn X.env (eval a X.env) = eval a X.env := by rfl) : SE T X W (.Attribute a fn pos) (eFld ok n f) :=
  (pe_fld ha hb).imp fun σ H Q q => by
    obtain ⟨ρ, e, h, R, E, a⟩ := q
    unfold eFld at a
    refine ⟨ρ, e, h, R, E, a.bind.mono fun ov H1 ⟨ρ1, od, h1, s, R1, r1, a1⟩ => ?_⟩
    split at a1
    · rename_i c fs hx
      obtain ⟨p, dx, vs, rfl, hi, hfs⟩ := ins_of R1 r1 hx
      split at a1
      · rename_i hc
        split at a1
        · rename_i d hd
          obtain ⟨v, e1, e2⟩ := FsR.look (S := sy T X) nk hn hfs hd
          exact ⟨p, _, dx, vs, v, rfl, hi, (hok c hc).1, (hok c hc).2, by rw [← hf]; exact e1, a1.same R1 e2⟩
        · exact a1.elim
      · exact a1.elim
    · exact a1.elim
theorem st_fld (nk : NmOk T) (hn : n < 100) (hf : T.nm n = fn) (hok : ∀ c, ok c = true → Cls X.K (T.ca c) ∧ NoAttr X.K (T.ca c) fn) (ho : SE T X W o f) (hv : SE T X W a g) (hs : swapsWith a (some (.Attribute o fn pos')) pos.line X.env = pure false := by rfl) : SSt T X W (.Assign [.Attribute o fn pos'] a pos) (sFldV ok n f g) :=
  (ps_fld ho hv hs).imp fun D σ H q => by
    obtain ⟨ρ, e, h, R, E, a⟩ := q
    unfold sFldV at a
    have a := (AftS.ofR a E).bind
    refine ⟨ρ, e, h, R, E, a.mono fun yv H1 ⟨ρ1, yd, h1, s1, R1, r1, a1⟩ => ⟨ρ1, e, h1, R1, E.go s1, a1.bind.mono fun ov H2 ⟨ρ2, od, h2, s2, R2, r2, a2⟩ => ?_⟩⟩
    split at a2
    · split at a2
      · rename_i i c fs hx
        obtain ⟨p, rfl, ep⟩ := r2.ref_
        split at a2
        · rename_i hc
          split at a2
          · rename_i gs hg
            have ob := R2.ob _ _ _ hx ep
            cases ob with
            | @ins _ _ vs _ dx hi hfs =>
              have hl := hfs.length
              refine ⟨p, _, dx, vs, rfl, hi, (hok c hc.1).1, (hok c hc.1).2, by omega, ?_⟩
              have kp : Mv (sy T X) ρ2 H2 ρ2 (upd H2 p (.ins (T.ca c) dx (putF (T.nm n) yv vs))) := .put ep hi True.intro
              have R4 := R2.put (o := .ins (T.ca c) dx (putF (T.nm n) yv vs)) (ob := .ins c gs) ep hi True.intro (.ins upd_same ((FsR.put (S := sy T X) nk hn (r1.go s2) hfs hg).mono kp))
              have g4 : Go (sy T X) ρ2 H2 ρ2 (upd H2 p (.ins (T.ca c) dx (putF (T.nm n) yv vs))) := .put ep hi True.intro
              obtain ⟨ρ5, d5, h5, s5, R5, r5, E5, a5⟩ := a2 ρ2 .non _ g4 R4 .non
              rw [← hf]
              exact a5 ρ5 σ _ .rfl R5 E5
          · exact a2.elim
        · exact a2.elim
      · exact a2.elim
    · exact a2.elim
end
end Lad
end
/-! ## LadMk -/
section
set_option maxRecDepth 100000
set_option maxHeartbeats 2000000
namespace Lad
open PySem L2
open PySem.W (Frag)
/-! ### methods, making: what the callee lets out may depend on the frame -/
section
variable {X : Cx} {CX : CXT} {k : Nat} {f C : Addr} {fd : FuncData} {ps : List Str} {sp : Sp} {E : St → XK} {x m : Str} {p pos apos : Pos} {e o : Expr} {es : List Expr} {ta : TE} {t : TA}
def tMtS (C : Addr) (m : Str) (sp : Sp) (E : St → XK) (ta : TE) (t : TA) : TE := fun σ H Q => ta σ H fun x H1 => ∃ a dx fs, x = .ref a ∧ H1 a = some (.ins C dx fs) ∧ fs.lookup m = none ∧ t σ H1 fun vs H2 => sp (x :: vs) H2 Q (E σ)
theorem pe_mtS {pl : Sem Bool} (he : PE X o ta) (c : Cls X.K C) (hm : Meth X.K C m f) (F : FnOk X.prog X.w X.K X.mg X.base CX k f fd ps sp) (hr : Room k X.A) (hb : Binds X.K fd ps []) (hx : ∀ σ, PassesAt CX X σ (E σ)) (ha : PA X (e :: es) t)
    (hst : starEach (e :: es) X.env = (false, eval e X.env) :: starEach es X.env := by rfl) (hpl : (backTo pos (starEach es X.env)).any (·.1) = false := by rfl)
    (ht : eval (.Call (.Attribute o m apos) (e :: es) [] pos) X.env = (do
      let ov ← eval o X.env
      standAt apos.atName
      let (f, first) ← holding [ov] (getMethod ov m pl)
      callWith pos f first (backTo pos (starEach (e :: es) X.env)) (backToKw pos (keywordEach [] X.env))) := by rfl) : PE X (.Call (.Attribute o m apos) (e :: es) [] pos) (tMtS C m sp E ta t) := by
  refine ⟨?_⟩
  intro pins s σ H Q I hw
  have recv := he.run pins s σ H _ I hw
  refine PySem.W.methodCall_KW (pl := pl) (thn recv ?_) ht
  rintro u s1 ⟨x, H1, I1, rx, a, dx, fs, rfl, ea, nof, w1⟩
  have eu : u = Value.ref a := rx
  subst eu
  apply getmeth_ok I1 ea c hm nof
  have given := ha.run pos pins s1 σ H1 _ I1 w1
  refine PySem.W.callWith_K (first := [.ref a]) (h₀ := X.base) I.ok.mod.kin hm.kp (thn given ?_) hst hpl
  rintro us s2 ⟨vs, H2, I2, rs, w2⟩
  exact ⟨I2.kIn, run_fnS (us := .ref a :: us) (vs := .ref a :: vs) F hr hb (hx σ) I2 (.cons rfl rs) w2⟩
theorem pe_mtS0 {pl : Sem Bool} (he : PE X o ta) (c : Cls X.K C) (hm : Meth X.K C m f) (F : FnOk X.prog X.w X.K X.mg X.base CX k f fd ps sp) (hr : Room k X.A) (hb : Binds X.K fd ps []) (hx : ∀ σ, PassesAt CX X σ (E σ))
    (ht : eval (.Call (.Attribute o m apos) [] [] pos) X.env = (do
      let ov ← eval o X.env
      standAt apos.atName
      let (f, first) ← holding [ov] (getMethod ov m pl)
      callWith pos f first (backTo pos (starEach [] X.env)) (backToKw pos (keywordEach [] X.env))) := by rfl) : PE X (.Call (.Attribute o m apos) [] [] pos) (tMtS C m sp E ta tNil) := by
  refine ⟨?_⟩
  intro pins s σ H Q I hw
  have recv := he.run pins s σ H _ I hw
  refine PySem.W.methodCall_KW (pl := pl) (thn recv ?_) ht
  rintro u s1 ⟨x, H1, I1, rx, a, dx, fs, rfl, ea, nof, w1⟩
  have eu : u = Value.ref a := rx
  subst eu
  apply getmeth_ok I1 ea c hm nof
  exact PySem.W.callWith_K0 (first := [.ref a]) I1.kIn hm.kp (run_fnS (us := [.ref a]) (vs := [.ref a]) F hr hb (hx σ) I1 (.cons rfl .nil) w1)
/-- a new instance, its __init__ run -/
theorem run_mkS {pins : List (Addr × Obj)} {σ : St} {H : Hp} {s : Shared} {Q : VK} {us : List Value} {vs : List V} (M : Mk X.K C f) (F : FnOk X.prog X.w X.K X.mg X.base CX k f fd ps sp) (hr : Room (k + 1) X.A) (hb : Binds X.K fd ps []) (hx : PassesAt CX X σ (E σ)) (I : Inv X pins σ H s) (r : Vals vs us)
    (w : ∀ x dx, H x = none → H dx = none → dx ≠ x → sp (.ref x :: vs) (upd (upd H dx (.own x)) x (.ins C dx [])) (fun v H2 => v = .non ∧ Q (.ref x) H2) (E σ)) :
    wpAny (model X.prog X.w) X.A (call (.ref C) us) (EP X pins σ Q) X.xe s := by
  have at0 := I.hok.fresh (Nat.le_refl s.heap.objs.size)
  have at1 := I.hok.fresh (Nat.le_succ s.heap.objs.size)
  have w1 := w (s.heap.objs.size + 1) s.heap.objs.size at1 at0 (Nat.ne_of_lt (Nat.lt_succ_self _))
  have J := Inv.made (C := C) I
  have rs : Vals (V.ref (s.heap.objs.size + 1) :: vs) (Value.ref (s.heap.objs.size + 1) :: us) := .cons rfl r
  have len : (Value.ref (s.heap.objs.size + 1) :: us).length = ps.length := by
    rw [← rs.length]
    exact F.len _ _ _ _ w1
  have bind := hb _ (Value.ref (s.heap.objs.size + 1) :: us) J.kIn (by rw [List.append_nil]; exact len)
  rw [List.append_nil] at bind
  have body := F.run _ X.stack _ _ ⟨Value.ref (s.heap.objs.size + 1) :: us, []⟩ (Value.ref (s.heap.objs.size + 1) :: us) _ _ (E σ) (hr.make C us []) (J.env0.make C us []) bind rs w1
  apply wpAny_call
  refine make_map (f := f) I.kIn M.makes M.init (beq_iff_eq.mp M.fn) (codeAny_mono body ?_)
  intro res s' back
  match res, back with
  | .error er, back => exact hx pins _ _ er s' J back
  | .ok (.ret u), back =>
    obtain ⟨v, H', I3, rv, ev, w3⟩ := J.after back
    subst ev
    exact ⟨rv, V.ref (s.heap.objs.size + 1), H', I3, rfl, w3⟩
  | .ok .next, back => exact False.elim back
  | .ok .brk, back => exact False.elim back
  | .ok .cont, back => exact False.elim back
def tMkS (C : Addr) (sp : Sp) (E : St → XK) (t : TA) : TE := fun σ H Q => t σ H fun vs H1 => ∀ x dx, H1 x = none → H1 dx = none → dx ≠ x → sp (.ref x :: vs) (upd (upd H1 dx (.own x)) x (.ins C dx [])) (fun v H2 => v = .non ∧ Q (.ref x) H2) (E σ)
theorem pe_mkS (M : Mk X.K C f) (F : FnOk X.prog X.w X.K X.mg X.base CX k f fd ps sp) (hr : Room (k + 1) X.A) (hg : Gl X x) (hm : X.mg x = some (.ref C)) (hb : Binds X.K fd ps []) (hx : ∀ σ, PassesAt CX X σ (E σ)) (ha : PA X (e :: es) t)
    (hdb : (x == ("__debug__" : Str)) = false := by decide) (he : starEach (e :: es) X.env = (false, eval e X.env) :: starEach es X.env := by rfl) (hpl : (backTo pos (starEach es X.env)).any (·.1) = false := by rfl) :
    PE X (.Call (.Name x p) (e :: es) [] pos) (tMkS C sp E t) := by
  refine ⟨?_⟩
  intro pins s σ H Q I hw
  apply wpAny_Call_Name_kw
  refine ld_glob I hg hm ?_ hdb
  have given := ha.run pos pins s σ H _ I hw
  refine PySem.W.callWith_K (h₀ := X.base) I.ok.mod.kin M.kp (thn given ?_) he hpl
  rintro us s1 ⟨vs, H1, I1, rs, w1⟩
  exact ⟨I1.kIn, run_mkS M F hr hb (hx σ) I1 rs w1⟩
end
/-! ### evaluators -/
def eMeth (c n : Nat) (cf : List Val → Hea → Res Val) (f : En → Hea → Res Val) (g : En → Hea → Res (List Val)) : En → Hea → Res Val := fun e h => (f e h).bind fun o h1 => match insOf h1 o with
  | some (c', fs) => if c' = c ∧ noF fs n = true then (g e h1).bind fun ds h2 => cf (o :: ds) h2 else .stuck
  | none => .stuck
/-- __init__'s end: None; fn: what becomes of the new thing -/
def mkEnd (fn : Hea → Val → Hea → Res Val) (h0 : Hea) (r : Res Val) : Res Val := match r with
  | .ok .non h => fn h0 (.ref h0.length) h
  | .ok _ _ => .stuck
  | .exc c d h => .exc c d h
  | .stuck => .stuck
def eMakeG (fn : Hea → Val → Hea → Res Val) (c : Nat) (cf : List Val → Hea → Res Val) (g : En → Hea → Res (List Val)) : En → Hea → Res Val := fun e h => (g e h).bind fun ds h1 => mkEnd fn h1 (cf (.ref h1.length :: ds) (h1 ++ [.ins c []]))
abbrev eMake := eMakeG fin
abbrev eMakeK := eMakeG finK
section
variable {T : Tb} {X : Cx} {W : WX} {x m : Str} {f : Addr} {fd : FuncData} {ps : List Str} {k c n : Nat} {cf : List Val → Hea → Res Val} {e o : Expr} {es : List Expr} {fo : En → Hea → Res Val} {g : En → Hea → Res (List Val)} {p apos pos : Pos}
theorem meth_imp (nk : NmOk T) (hn : n < 100) (hm : T.nm n = m) {σ : St} {H : Hp} {Q : VK} (q : tE (sy T X) W (eMeth c n cf fo g) σ H Q) : tMtS (T.ca c) m (spEv (sy T X) cf) (WE W) (tE (sy T X) W fo) (tA (sy T X) W g) σ H Q := by
  obtain ⟨ρ, e, h, R, E, a⟩ := q
  unfold eMeth at a
  refine ⟨ρ, e, h, R, E, a.bind.mono fun ov H1 ⟨ρ1, od, h1, s, R1, r1, a1⟩ => ?_⟩
  split at a1
  · rename_i c' fs hx
    obtain ⟨p, dx, vs, rfl, hi, hfs⟩ := ins_of R1 r1 hx
    split at a1
    · rename_i hc
      obtain ⟨rfl, hno⟩ := hc
      refine ⟨p, dx, vs, rfl, hi, by rw [← hm]; exact FsR.lookNo (S := sy T X) nk hn hfs hno, ρ1, e, h1, R1, E.go s, (AftA.bind a1).mono fun us H2 ⟨ρ2, ds, h2, s2, R2, r2, a2⟩ => ?_⟩
      exact ⟨ρ2, h2, _, R2, .cons (r1.go s2) r2, a2⟩
    · exact a1.elim
  · exact a1.elim
theorem se_meth (nk : NmOk T) (hn : n < 100) (hnm : T.nm n = m) (C : Cls X.K (T.ca c)) (hm : Meth X.K (T.ca c) m f) (F : FnOk X.prog X.w X.K X.mg X.base (L2.CX X.prog X.w) k f fd ps (spEv (sy T X) cf)) (hr : Room k X.A) (hb : Binds X.K fd ps []) (tk : Takes X W)
    (ho : SE T X W o fo) (ha : SA T X W (e :: es) g) {pl : Sem Bool} (hst : starEach (e :: es) X.env = (false, eval e X.env) :: starEach es X.env := by rfl) (hpl : (backTo pos (starEach es X.env)).any (·.1) = false := by rfl)
    (ht : eval (.Call (.Attribute o m apos) (e :: es) [] pos) X.env = (do
      let ov ← eval o X.env
      standAt apos.atName
      let (f, first) ← holding [ov] (getMethod ov m pl)
      callWith pos f first (backTo pos (starEach (e :: es) X.env)) (backToKw pos (keywordEach [] X.env))) := by rfl) : SE T X W (.Call (.Attribute o m apos) (e :: es) [] pos) (eMeth c n cf fo g) :=
  (pe_mtS (E := WE W) ho C hm F hr hb (fun σ => passAt tk σ) ha hst hpl ht).imp fun σ H Q q => meth_imp nk hn hnm q
theorem se_meth0 (nk : NmOk T) (hn : n < 100) (hnm : T.nm n = m) (C : Cls X.K (T.ca c)) (hm : Meth X.K (T.ca c) m f) (F : FnOk X.prog X.w X.K X.mg X.base (L2.CX X.prog X.w) k f fd ps (spEv (sy T X) cf)) (hr : Room k X.A) (hb : Binds X.K fd ps []) (tk : Takes X W)
    (ho : SE T X W o fo) {pl : Sem Bool}
    (ht : eval (.Call (.Attribute o m apos) [] [] pos) X.env = (do
      let ov ← eval o X.env
      standAt apos.atName
      let (f, first) ← holding [ov] (getMethod ov m pl)
      callWith pos f first (backTo pos (starEach [] X.env)) (backToKw pos (keywordEach [] X.env))) := by rfl) : SE T X W (.Call (.Attribute o m apos) [] [] pos) (eMeth c n cf fo aNil) :=
  (pe_mtS0 (E := WE W) ho C hm F hr hb (fun σ => passAt tk σ) ht).imp fun σ H Q q => by
    obtain ⟨ρ, e, h, R, E, a⟩ := q
    unfold eMeth at a
    refine ⟨ρ, e, h, R, E, a.bind.mono fun ov H1 ⟨ρ1, od, h1, s, R1, r1, a1⟩ => ?_⟩
    split at a1
    · rename_i c' fs hx
      obtain ⟨p, dx, vs, rfl, hi, hfs⟩ := ins_of R1 r1 hx
      split at a1
      · rename_i hc
        obtain ⟨rfl, hno⟩ := hc
        exact ⟨p, dx, vs, rfl, hi, by rw [← hnm]; exact FsR.lookNo (S := sy T X) nk hn hfs hno, ρ1, h1, _, R1, .cons r1 .nil, a1⟩
      · exact a1.elim
    · exact a1.elim
theorem mkEnd_aft {S : Sy} {fn : Hea → Val → Hea → Res Val} (fo : FinOk fn) {ρ0 ρ : Own} {H0 H : Hp} {h0 : Hea} {r : Res Val} {Q : VK} {W : XK} {x : Addr} (R0 : Rel S ρ0 h0 H0) (g : Go S ρ0 H0 ρ H) (ex : ρ.nm[h0.length]? = some x) (a : Aft S ρ0 H0 (mkEnd fn h0 r) Q W) : Aft S ρ H r (fun v H2 => v = .non ∧ Q (.ref x) H2) W := by
  unfold mkEnd at a
  split at a
  · intro ρ1 v H1 s R1 r1
    cases r1
    exact ⟨rfl, fo _ _ _ _ _ _ _ _ R0 a ρ1 (.ref x) H1 (g.trans s) R1 (.ref (s.sub _ _ ex))⟩
  · exact a.elim
  · exact fun ρ1 v H1 dx s => a ρ1 v H1 dx (g.trans s)
  · exact a
theorem se_make {fn : Hea → Val → Hea → Res Val} (fo : FinOk fn) (hm : X.mg x = some (.ref (T.ca c))) (M : Mk X.K (T.ca c) f) (F : FnOk X.prog X.w X.K X.mg X.base (L2.CX X.prog X.w) k f fd ps (spEv (sy T X) cf)) (hr : Room (k + 1) X.A) (hb : Binds X.K fd ps []) (tk : Takes X W) (ha : SA T X W (e :: es) g) (hg : Gl X x := by rfl)
    (hdb : (x == ("__debug__" : Str)) = false := by decide) (he : starEach (e :: es) X.env = (false, eval e X.env) :: starEach es X.env := by rfl) (hpl : (backTo pos (starEach es X.env)).any (·.1) = false := by rfl) : SE T X W (.Call (.Name x p) (e :: es) [] pos) (eMakeG fn c cf g) :=
  (pe_mkS (E := WE W) M F hr hg hm hb (fun σ => passAt tk σ) ha hdb he hpl).imp fun σ H Q q => by
    obtain ⟨ρ, e, h, R, E, a⟩ := q
    unfold eMakeG at a
    refine ⟨ρ, e, h, R, E, (AftA.bind a).mono fun us H1 ⟨ρ1, ds, h1, s, R1, r1, a1⟩ => ?_⟩
    intro y dx ny ndx hne
    have g1 : Go (sy T X) ρ1 H1 ρ1 (upd H1 dx (.own y)) := .side ndx
    have R2 : Rel (sy T X) ρ1 h1 (upd H1 dx (.own y)) := R1.side ndx
    have ny2 : upd H1 dx (.own y) y = none := by rw [upd_ne (Ne.symm hne)]; exact ny
    have g2 : Go (sy T X) ρ1 (upd H1 dx (.own y)) (ρ1.add y) (upd (upd H1 dx (.own y)) y (.ins (T.ca c) dx [])) := .new ny2
    have R3 : Rel (sy T X) (ρ1.add y) (h1 ++ [.ins c []]) (upd (upd H1 dx (.own y)) y (.ins (T.ca c) dx [])) := R2.new ny2 (.ins upd_same .nil)
    have ey : (ρ1.add y).nm[h1.length]? = some y := by rw [R1.len]; exact add_at
    exact ⟨ρ1.add y, h1 ++ [.ins c []], .ref h1.length :: ds, R3, .cons (.ref ey) (r1.go (g1.trans g2)), mkEnd_aft fo R1 (g1.trans g2) ey a1⟩
end
end Lad
end
/-! ## LadEnum -/
section
set_option maxRecDepth 100000
set_option maxHeartbeats 2000000
namespace Lad
open PySem
/-! ### enumerate(v) by what iter(v) makes -/
def enO (it : Addr) : Obj := { cls := .type "enumerate", data := .fields #[.none, .bool false, .ref it, rawInt 0, .none, .none] }
theorem meets_en1 {v : Value} {o : Obj} {H : Heap → Prop} (B : Begins v o H) : Meets (Builtin.«enumerate.__new__» ⟨[.type "enumerate", v], []⟩)
    (fun _ R s => H s.heap ∧ R (.ok (.ret (.ref (s.heap.push o).objs.size))) { s with heap := (s.heap.push o).push (enO s.heap.objs.size) }) :=
  .of_wp fun prog w A R s h => by
    obtain ⟨hp, gs, dr, tk, os⟩ := s
    obtain ⟨h1, h⟩ := h
    have hsub := sub_enumerate
    have itq : ∀ {A' : Around} {E : Value → Shared → Prop} {Q : Value → Shared → Prop}, Q (.ref hp.objs.size) ⟨hp.push o, gs, dr, tk, os⟩ → wpAny (model prog w) A' (pyIter v) Q E ⟨hp, gs, dr, tk, os⟩ := fun z => B.iter prog w _ _ ⟨hp, gs, dr, tk, os⟩ _ h1 z
    wp_walk using itq
    refine wpAny_stack_any fun st => wpAny_pure ?_
    split
    · rename_i c _ _ _ _ _
      cases (c == Value.type "enumerate") <;> (wp_walk using itq; exact ⟨_, rfl, h⟩)
    · wp_walk using itq
      exact ⟨_, rfl, h⟩
section
variable {prog : Program} {w : World} {A : Around} {E : Value → Shared → Prop} {s : Shared}
theorem call_en1 {v : Value} {o : Obj} {H : Heap → Prop} {Q : Value → Shared → Prop} (B : Begins v o H) (h1 : H s.heap)
    (h : ∀ h', IsEnum h' (s.heap.objs.size + 1) s.heap.objs.size 0 .none → h'.get? s.heap.objs.size = some o → (∀ b u, s.heap.get? b = some u → h'.get? b = some u) → Q (.ref (s.heap.objs.size + 1)) { s with heap := h' }) :
    wpAny (model prog w) A (call (.type "enumerate") [v]) Q E s := by
  have sz : (s.heap.push o).objs.size = s.heap.objs.size + 1 := Heap.size_push ..
  have here : IsEnum ((s.heap.push o).push (enO s.heap.objs.size)) (s.heap.objs.size + 1) s.heap.objs.size 0 .none := by
    have z := Heap.get?_push_size (s.heap.push o) (o := enO s.heap.objs.size) rfl
    rw [sz] at z
    exact z
  refine callType_new F.called_enumerate (by decide) (F.typeCall_enumerate_1 _) (F.newCall_enumerate_1 _) (fun ob => F.args_object_init_2 ob _) F.entry_enumerate_new (meets_en1 B) ⟨h1, ?_⟩
  show _ ∧ _
  rw [sz]
  exact ⟨⟨_, here, rfl⟩, h _ here (Heap.get?_push_of_some _ (Heap.get?_push_size _ B.free)) fun b u z => Heap.get?_push_of_some _ (Heap.get?_push_of_some _ z)⟩
end
open L2 PySem.Spec PyProof.Rows
/-- the tuple at a, each item in a new pair -/
def Itet (K : PySem.W.Frag) (a : Addr) : It where
  go := fun i H => ∃ (xs : List V) (x : V), SqT K H a xs ∧ xs[i]? = some x
  yld := fun i H v H' => ∃ T x, v = .ref T ∧ H T = none ∧ H' = upd H T (.tup [.int (i : Nat), x]) ∧ ∀ xs, SqT K H a xs → xs[i]? = some x
  stop := fun i H => ∃ xs : List V, SqT K H a xs ∧ xs.length = i
theorem turn_en {P : Program} {w : World} {K : PySem.W.Frag} {elts : List Expr} {kk : Nat} {tpos : Pos} (a e it : Addr) (hai : a ≠ it) (hae : a ≠ e) :
    Turn P w K (.Tuple elts kk tpos) (Itet K a) [e, it] e (fun i h => (∃ old, IsEnum h e it ((i : Nat) : Int) old) ∧ h.IsTupleIter it a i ∧ e ≠ it) where
  mem := by simp
  obj := by
    rintro i h ⟨⟨old, he⟩, ⟨o, ho, hc, hd⟩, _⟩ b hb
    rcases (show b = e ∨ b = it by simpa using hb) with rfl | rfl
    · exact ⟨_, he, fun v q => nomatch q⟩
    · exact ⟨o, ho, fun v q => by rw [hd] at q; cases q⟩
  keep := by
    rintro i h h' ⟨⟨old, he⟩, hi, hne⟩ k
    exact ⟨⟨old, k e (by simp) _ he⟩, hi.at fun o q => k it (by simp) o q, hne⟩
  item := by
    intro X hP hw hK hc i pins s σ H E I hf st hg
    subst hP hw hK
    obtain ⟨⟨old, he⟩, hit, hne⟩ := st
    obtain ⟨xs, x, hq, hx⟩ := hg
    obtain ⟨its, rv, tp, hz⟩ := I.tuple hq
    obtain ⟨u, hu, ru⟩ := rv.get hx
    have hlt : i < its.toArray.size := by
      have := (List.getElem?_eq_some_iff.mp hu).1
      simpa using this
    have le : e < s.heap.objs.size := Heap.lt_size he
    have li : it < s.heap.objs.size := by obtain ⟨_, q, _⟩ := hit; exact Heap.lt_size q
    have D := Draws.tuple (prog := X.prog) (w := X.w) (A := X.A.in1) (I.ok.hd hc) it a hai its.toArray
    refine wpAny_pyNext_enum_itemD D he ⟨hit, tp⟩ hlt hne (by simp [hne, Ne.symm hae]) fun y h' tk py ho hst' hT hsz hk => ?_
    have ey : y = u := by
      have z : its.toArray[i]? = some y := py
      have z2 : its.toArray[i]? = some u := by simpa using hu
      rw [z2] at z
      exact (Option.some.inj z).symm
    subst ey
    refine ⟨_, rfl, wpAny_letOwnedTupleGo_enum (s := { s with heap := h', toks := tk + 1 }) ho fun h'' he' sb => ?_⟩
    have hT2 : h''.get? s.heap.objs.size = some { cls := .type "tuple", data := .seq #[.int i tk, y] } := (sb.2 _ (Nat.ne_of_gt le)).trans hT
    have nw : ObjOk X.prog X.w (upd H s.heap.objs.size (.tup [.int (i : Nat), x])) h'' s.heap.objs.size (.tup [.int (i : Nat), x]) := ⟨by show 2 ≤ sizeLine; decide, [.int i tk, y], .cons ⟨_, rfl⟩ (.cons ru .nil), ⟨_, hT2, rfl, _, rfl⟩⟩
    have J : Inv X pins σ (upd H s.heap.objs.size (.tup [.int (i : Nat), x])) { s with heap := h'', toks := tk + 1 } :=
      I.turnedNew (ch := [e, it]) (fun b ob hb q => (sb.2 b (fun z => hb (by simp [z]))).trans (hk b ob (fun z => hb (by simp [z])) (fun z => hb (by simp [z])) q)) hf (Nat.le_refl _) nw
    refine ⟨.ref s.heap.objs.size, _, J, rfl, ⟨_, x, rfl, I.hok.fresh (Nat.le_refl _), rfl, fun ys hy => by rw [I.tuple_inj hy hq]; exact hx⟩, ⟨⟨y, ?_⟩, hst'.1.at fun o q => (sb.2 it (Ne.symm hne)).trans q, hne⟩, fun b hb => ?_⟩
    · rw [show ((i + 1 : Nat) : Int) = (i : Int) + 1 by omega]
      exact he'
    · have lb : b < s.heap.objs.size := by
        rcases (show b = e ∨ b = it by simpa using hb) with rfl | rfl
        · exact le
        · exact li
      rw [upd_ne (Nat.ne_of_lt lb)]
      exact (hf b hb).1
  done := by
    intro X hP hw hK hc i pins s σ H E I hf st hg
    subst hP hw hK
    obtain ⟨⟨old, he⟩, hit, hne⟩ := st
    obtain ⟨xs, hq, hx⟩ := hg
    obtain ⟨its, rv, tp, hz⟩ := I.tuple hq
    obtain ⟨f0, f1, f2, f3, f4, f5⟩ := hf it (by simp)
    have D := Draws.tuple (prog := X.prog) (w := X.w) (A := X.A.in1) (I.ok.hd hc) it a hai its.toArray
    have en : its.toArray.size = i := by rw [List.size_toArray, ← rv.length]; exact hx
    refine wpAny_pyNext_enum_endD D he ⟨by rw [en]; exact hit, tp⟩ fun h' eb => ?_
    exact ⟨rfl, I.turned (t' := s.toks) (fun b o hb q => eb b o hb q) f0 f1 f3 f4 f5⟩
  self := fun A i s Q E st h => let ⟨⟨_, he⟩, _⟩ := st; wpAny_pyIter_enum he h
def iEnT (K : PySem.W.Frag) (ta : TA) : TI := fun σ H R => ta σ H fun vs H1 => ∃ a xs, vs = [.ref a] ∧ SqT K H1 a xs ∧ R (Itet K a) H1
theorem pi_enT {X : Cx} {e : Expr} {ta : TA} {p pos tpos : Pos} {elts : List Expr} {kk : Nat} (hg : Gl X "enumerate") (hm : X.mg "enumerate" = none) (ha : PA X [e] ta) (hs : starEach [e] X.env = [(false, eval e X.env)] := by rfl) :
    PI X (.Tuple elts kk tpos) (.Call (.Name "enumerate" p) [e] [] pos) (iEnT X.K ta) := by
  refine ⟨?_⟩
  intro pins s σ H R I hw
  have given := ha.run pos pins s σ H _ I hw
  refine Call_ (ld_blt I hg hm boot_enumerate (PyProof.Rows.callWith_type1 (thn given ?_) hs rfl))
  rintro us s1 ⟨vs, H1, I1, r1, a, xs, rfl, hq, q⟩
  match us, r1 with
  | [u], .cons r .nil =>
    have eu : u = Value.ref a := r
    subst eu
    obtain ⟨its, rv, tp, hz⟩ := I1.tuple hq
    have la : a < s1.heap.objs.size := by obtain ⟨o, ho, _⟩ := tp; exact Heap.lt_size ho
    refine call_en1 (begins_tuple a its.toArray) tp fun h' he hit hk => wpAny_pyIter_enum he ?_
    have I2 : Inv X pins σ H1 { s1 with heap := h' } := I1.kept (t' := s1.toks) hk
    have ti : h'.IsTupleIter s1.heap.objs.size a 0 := ⟨_, hit, rfl, rfl⟩
    refine ⟨s1.heap.objs.size + 1, [s1.heap.objs.size + 1, s1.heap.objs.size], _, _, H1, rfl, I2, turn_en a (s1.heap.objs.size + 1) s1.heap.objs.size (Nat.ne_of_lt la) (Nat.ne_of_lt (Nat.lt_succ_of_lt la)), ⟨⟨.none, he⟩, ti, Nat.succ_ne_self _⟩, fun b hb => ?_, q⟩
    have le : s1.heap.objs.size ≤ b := by
      rcases (show b = s1.heap.objs.size + 1 ∨ b = s1.heap.objs.size by simpa using hb) with rfl | rfl
      · exact Nat.le_add_right _ _
      · exact Nat.le_refl _
    exact I1.fpOk le (I1.hok.fresh le)
/-! ### the rule -/
def iEnumS (f : En → Hea → Res Val) : En → Hea → Res Src := fun e h => (f e h).bind fun d h1 => match d with
  | .ref i => if (lstAt h1 i).isSome = true then .ok (srcEnum i) h1 else .stuck
  | .tup xs => .ok (srcEnumF xs) h1
  | .lst xs => .ok (srcEnumF xs) h1
  | _ => .stuck
theorem j_enT {S : Sy} {H : Hp} {ρ : Own} {a : Addr} {xs : List Val} {vs : List V} (sq : SqT S.K H a vs) (r : Reps S ρ H xs vs) : JOk S ρ H (Itet S.K a) (srcEnumF xs).item := jfix fun ρ' H' h' g R k hk => by
  have sq' := g.kp.1 _ _ sq
  have r' := r.mono g
  rw [enumFrom_len] at hk
  rw [enumFrom0]
  · unfold enumV
    cases e : xs[k]? with
    | none =>
      have hk2 : xs.length ≤ k := List.getElem?_eq_none_iff.mp e
      exact ⟨vs, sq', by rw [← r.length]; omega⟩
    | some d =>
      obtain ⟨v, ev, rv⟩ := r'.get e
      refine ⟨⟨vs, v, sq', ev⟩, fun x H'' ⟨t, y, ex, nt, eh, q⟩ => ?_⟩
      have z := q vs sq'
      rw [ev] at z
      cases z
      subst ex eh
      exact ⟨.side nt, R.side nt, .tup (.inl (.inl upd_same)) (.cons (.int _) (.cons (rv.mono (.side nt)) .nil))⟩
section
variable {T : Tb} {X : Cx} {W : WX} {a : Expr} {f : En → Hea → Res Val} {pos p tpos : Pos} {elts : List Expr} {kk : Nat}
def iEnumTup (f : En → Hea → Res Val) : En → Hea → Res Src := fun e h => (f e h).bind fun d h1 => match d with
  | .tup xs => .ok (srcEnumF xs) h1
  | _ => .stuck
theorem si_enumT (hg : Gl X "enumerate") (hm : X.mg "enumerate" = none) (ha : SE T X W a f) (hs : starEach [a] X.env = [(false, eval a X.env)] := by rfl) : SI T X W (.Tuple elts kk tpos) (.Call (.Name "enumerate" p) [a] [] pos) (iEnumTup f) :=
  (pi_enT hg hm (pa_cons ha pa_nil hs) hs).imp fun σ H Q q => by
    obtain ⟨ρ, e, h, R, E, a⟩ := q
    refine ⟨ρ, e, h, R, E, (AftI.bind a).mono fun v H1 ⟨ρ1, d, h1, s, R1, r, a1⟩ => ?_⟩
    split at a1
    · obtain ⟨p, vs, rfl, sq, rr⟩ := r.tup_
      exact ⟨p, vs, rfl, sq, a1 ρ1 H1 _ .rfl R1 (j_enT sq rr)⟩
    · exact a1.elim
/-- enumerate of a list or a tuple -/
theorem si_enumS (hg : Gl X "enumerate") (hm : X.mg "enumerate" = none) (ha : SE T X W a f) (hs : starEach [a] X.env = [(false, eval a X.env)] := by rfl) : SI T X W (.Tuple elts kk tpos) (.Call (.Name "enumerate" p) [a] [] pos) (iEnumS f) :=
  (pi_or (si_enum hg hm ha hs) (si_enumT hg hm ha hs)).imp fun σ H Q q => by
    obtain ⟨ρ, e, h, R, E, a⟩ := q
    by_cases hc : ∃ xs h1, f e h = .ok (.tup xs) h1
    · obtain ⟨xs, h1, hf⟩ := hc
      refine .inr ⟨ρ, e, h, R, E, ?_⟩
      unfold iEnumS at a
      unfold iEnumTup
      rw [hf] at a ⊢
      exact a
    · refine .inl ⟨ρ, e, h, R, E, ?_⟩
      unfold iEnumS at a
      unfold iEnumV
      cases hf : f e h with
      | ok d h1 =>
        rw [hf] at a
        cases d with
        | tup xs => exact absurd ⟨xs, h1, hf⟩ hc
        | _ => exact a
      | exc c d h1 => rw [hf] at a; exact a
      | stuck => rw [hf] at a; exact a
end
end Lad
end
/-! ## LadGc -/
section
set_option maxRecDepth 100000
set_option maxHeartbeats 2000000
namespace Lad
open PySem L2
/-! ### for, garbage dropped behind each turn -/
def undE (n : Nat) : En → Bool
  | [] => true
  | none :: e => undE n e
  | some d :: e => d.und n && undE n e
def wipeAll (e : En) : List Nat → En
  | [] => e
  | i :: is => wipeAll (e.set i none) is
/-- the names of dead are forgotten; where nothing held is younger than n, the heap is cut at n -/
def gcN (dead : List Nat) (n : Nat) (e : En) (h : Hea) : En × Hea := match wipeAll e dead with
  | e1 => match (if undE n e1 = true then shut n n h else none) with
    | some g => (e1, g)
    | none => (e1, h)
def forK (gc : En → Hea → En × Hea) (it : Nat → Hea → Option (Option Val)) (b : Val → En → Option En) (body : En → Hea → SRes) : Nat → Nat → En → Hea → SRes
  | 0, _, _, _ => .stuck
  | n + 1, k, e, h => match it k h with
    | some none => .nx e h
    | some (some v) => match b v e with
      | some e1 => match body e1 h with
        | .nx e2 h2 => match gc e2 h2 with | (e3, h3) => forK gc it b body n (k + 1) e3 h3
        | .ct e2 h2 => match gc e2 h2 with | (e3, h3) => forK gc it b body n (k + 1) e3 h3
        | .bk e2 h2 => .nx e2 h2
        | r => r
      | none => .stuck
    | none => .stuck
def forKL (gc : En → Hea → En × Hea) (b : Val → En → Option En) (body : En → Hea → SRes) : List Val → En → Hea → SRes
  | [], e, h => .nx e h
  | v :: vs, e, h => match b v e with
    | some e1 => match body e1 h with
      | .nx e2 h2 => match gc e2 h2 with | (e3, h3) => forKL gc b body vs e3 h3
      | .ct e2 h2 => match gc e2 h2 with | (e3, h3) => forKL gc b body vs e3 h3
      | .bk e2 h2 => .nx e2 h2
      | r => r
    | none => .stuck
theorem forK_fix (gc : En → Hea → En × Hea) (b : Val → En → Option En) (body : En → Hea → SRes) (xs : List Val) : ∀ (m k : Nat) (e : En) (h : Hea), k + m = xs.length + 1 → 0 < m → forK gc (srcFix xs).item b body m k e h = forKL gc b body (xs.drop k) e h := by
  intro m
  induction m with
  | zero => intro k e h hm h0; omega
  | succ m ih =>
    intro k e h hm _
    unfold forK
    rw [fix_item xs (by omega)]
    by_cases hk : k < xs.length
    · rw [List.getElem?_eq_getElem hk, List.drop_eq_getElem_cons hk]
      unfold forKL
      dsimp only
      cases b xs[k] e with
      | none => rfl
      | some e1 =>
        dsimp only
        cases body e1 h with
        | nx e2 h2 => cases gc e2 h2; exact ih (k + 1) _ _ (by omega) (by omega)
        | ct e2 h2 => cases gc e2 h2; exact ih (k + 1) _ _ (by omega) (by omega)
        | _ => rfl
    · rw [List.getElem?_eq_none_iff.mpr (by omega), List.drop_eq_nil_of_le (by omega)]
      rfl
def runForK (gc : En → Hea → En × Hea) (s : Src) (b : Val → En → Option En) (body : En → Hea → SRes) (e : En) (h : Hea) : SRes := match s.fix with
  | some xs => forKL gc b body xs e h
  | none => forK gc s.item b body s.fuel 0 e h
theorem runForK_eq {gc : En → Hea → En × Hea} {s : Src} {b : Val → En → Option En} {body : En → Hea → SRes} {e : En} {h : Hea} : runForK gc s b body e h = forK gc s.item b body s.fuel 0 e h := by
  unfold runForK
  cases hf : s.fix with
  | none => rfl
  | some xs =>
    obtain ⟨e1, e2⟩ := s.ok xs hf
    rw [e1, e2]
    exact (forK_fix gc b body xs (xs.length + 1) 0 e h (by omega) (by omega)).symm
def sForK (dead : List Nat) (src : En → Hea → Res Src) (b : Val → En → Option En) (body : En → Hea → SRes) : En → Hea → SRes := fun e h => ofR (src e h) e fun s h1 => runForK (gcN dead h1.length) s b body e h1
section
variable {S : Sy} {H : Hp} {ρ : Own}
theorem ER.wipeAll : ∀ (is : List Nat) {e : En} {σ : St}, ER S ρ H e σ → ER S ρ H (Lad.wipeAll e is) σ
  | [], _, _, r => r
  | i :: is, _, _, r => ER.wipeAll is (r.weak i)
theorem ER.cut {ρ' : Own} (s : Less ρ ρ') : ∀ {e : En} {σ : St}, undE ρ.nm.length e = true → ER S ρ' H e σ → ER S ρ H e σ
  | _, _, _, .nil => .nil
  | none :: _, _, h, .cons r t => .cons (fun x e => nomatch e) (ER.cut s h t)
  | some d :: _, _, h, .cons r t => by
    simp only [undE, Bool.and_eq_true] at h
    refine .cons (fun x e => ?_) (ER.cut s h.2 t)
    obtain ⟨v, e1, e2⟩ := r x e
    cases e
    exact ⟨v, e1, e2.cut s h.1⟩
theorem gc_ok {ρ1 ρ4 : Own} {H1 H4 : Hp} {h1 h4 : Hea} {e4 : En} {σ4 : St} {dead : List Nat} (R1 : Rel S ρ1 h1 H1) (g : Go S ρ1 H1 ρ4 H4) (R4 : Rel S ρ4 h4 H4) (E4 : ER S ρ4 H4 e4 σ4) :
    ∃ ρ5, Go S ρ1 H1 ρ5 H4 ∧ Rel S ρ5 (gcN dead h1.length e4 h4).2 H4 ∧ ER S ρ5 H4 (gcN dead h1.length e4 h4).1 σ4 := by
  have E5 := ER.wipeAll dead E4
  have hl := R1.len
  unfold gcN
  dsimp only
  split
  · rename_i gg hg
    split at hg
    · rename_i hu
      exact ⟨ρ1, g.drop, R1.cut g.less R4 hg, E5.cut g.less (by rw [← hl]; exact hu)⟩
    · cases hg
  · exact ⟨ρ4, g, R4, E5⟩
end
section
variable {T : Tb} {X : Cx} {W : WX} {tg a : Expr} {src : En → Hea → Res Src} {body : List Stmt} {fb : En → Hea → SRes} {g : TG} {b : Val → En → Option En} {vs : List Nat} {pos : Pos}
theorem st_forK (dead : List Nat) (hp : PassesOwn (model X.prog X.w) X.A X.env X.xe) (hc : X.calm = true) (hi : SI T X W tg a src) (hg : PG X tg g) (ok : GOk (sy T X) vs g b) (hb : SSs T X W body fb) (hs : ∀ x, foldedSetIterable a X.env x = pure x := by intro _; rfl) :
    SSt T X W (.For tg a body [] pos) (sForK dead src b fb) := by
  refine PS.imp (ps_for hp hc hi hg hb hs) fun D σ H q => ?_
  obtain ⟨ρ, e, h, R, E, a⟩ := q
  refine ⟨ρ, e, h, R, E, (a.ofI E).mono fun J H1 ⟨ρ1, d, h1, s, R1, j, E1, a1⟩ => ?_⟩
  have a1 : AftS (sy T X) ρ1 H1 (forK (gcN dead h1.length) d.item b fb d.fuel 0 e h1) D W := by rw [← runForK_eq]; exact a1
  refine ⟨fun k m σ H2 => ∃ ρ2 e2 h2, Go (sy T X) ρ1 H1 ρ2 H2 ∧ Rel (sy T X) ρ2 h2 H2 ∧ ER (sy T X) ρ2 H2 e2 σ ∧ AftS (sy T X) ρ1 H1 (forK (gcN dead h1.length) d.item b fb m k e2 h2) D W, ⟨d.fuel, ρ1, e, h1, .rfl, R1, E1, a1⟩, fun k m σ H2 w => ?_⟩
  obtain ⟨ρ2, e2, h2, g2, R2, E2, a2⟩ := w
  cases m with
  | zero => exact a2.elim
  | succ m =>
    have jk := j ρ2 H2 h2 g2.mv R2 k
    unfold forK at a2
    cases hit : d.item k h2 with
    | none => rw [hit] at a2; exact a2.elim
    | some o =>
      rw [hit] at a2 jk
      cases o with
      | none => exact .inl ⟨jk, a2 ρ2 σ H2 g2 R2 E2⟩
      | some v =>
        refine .inr ⟨jk.1, fun σ' H' => ∃ ρ2 e2 h2, Go (sy T X) ρ1 H1 ρ2 H' ∧ Rel (sy T X) ρ2 h2 H' ∧ ER (sy T X) ρ2 H' e2 σ' ∧ AftS (sy T X) ρ1 H1 (forK (gcN dead h1.length) d.item b fb m (k + 1) e2 h2) D W, fun σ' H' z => ⟨m, Nat.lt_succ_self m, z⟩, fun x H' y => ?_⟩
        obtain ⟨g3, R3, r3⟩ := jk.2 x H' y
        dsimp only at a2
        cases hbv : b v e2 with
        | none => rw [hbv] at a2; exact a2.elim
        | some e3 =>
          rw [hbv] at a2
          refine ok ρ2 H' h2 e2 σ v x e3 _ R3 (E2.go g3) r3 hbv fun σ3 E3 _ => ⟨ρ2, e3, h2, R3, E3, ?_⟩
          have g4 := g2.trans g3
          dsimp only at a2
          revert a2
          cases fb e3 h2 with
          | nx e4 h4 =>
            intro a2 ρ4 σ4 H4 s4 R4 E4
            obtain ⟨ρ5, g5, R5, E5⟩ := gc_ok (dead := dead) R1 (g4.trans s4) R4 E4
            exact ⟨ρ5, _, _, g5, R5, E5, a2⟩
          | ct e4 h4 =>
            intro a2 ρ4 σ4 H4 s4 R4 E4
            obtain ⟨ρ5, g5, R5, E5⟩ := gc_ok (dead := dead) R1 (g4.trans s4) R4 E4
            exact ⟨ρ5, _, _, g5, R5, E5, a2⟩
          | bk e4 h4 => exact fun a2 ρ4 σ4 H4 s4 R4 E4 => a2 ρ4 σ4 H4 (g4.trans s4) R4 E4
          | rt v4 h4 => exact fun a2 => AftS.later (r := .rt v4 h4) a2 g4
          | exc c4 d4 e4 h4 => exact fun a2 => AftS.later (r := .exc c4 d4 e4 h4) a2 g4
          | stuck => exact fun a2 => a2
end
end Lad
end
/-! ## LadAug -/
section
set_option maxRecDepth 100000
set_option maxHeartbeats 2000000
namespace Lad
open PySem L2
/-! ### x += e, x -= e of ints -/
def sAug (i : Nat) (o : Int → Int → Int) (f : En → Hea → Res Val) : En → Hea → SRes := fun e h => match e[i]? with
  | some (some (.int x)) => ofR (f e h) e fun d h1 => match d with
    | .int y => .nx (e.set i (some (.int (o x y)))) h1
    | _ => .stuck
  | _ => .stuck
section
variable {T : Tb} {X : Cx} {W : WX} {a : Expr} {f : En → Hea → Res Val} {i : Nat} {x : Str} {op : Operator} {o : Int → Int → Int} {pos pos' : Pos}
theorem st_aug (hN : X.N.Nodup) (hi : X.N[i]? = some x) (hx : Loc X.env.scope x) (ho : PIp X op (ipI o)) (ha : SE T X W a f) (hf : X.fn x = true ∨ X.env.scope.names.lookup x = some .local := by first | exact .inl rfl | exact .inr rfl | assumption) :
    SSt T X W (.AugAssign (.Name x pos') op a pos) (sAug i o f) := (ps_aug hN hi hx ha ho hf).imp fun D σ H q => by
  obtain ⟨ρ, e, h, R, E, a⟩ := q
  unfold sAug at a
  split at a
  · rename_i n hn
    obtain ⟨v, e1, r1⟩ := E.get hn
    obtain rfl := r1.int_
    refine ⟨_, e1, ρ, e, h, R, E, (AftS.ofR a E).mono fun y H1 ⟨ρ1, d, h1, s, R1, r, E1, a1⟩ => ?_⟩
    split at a1
    · obtain rfl := r.int_
      exact ⟨_, _, rfl, rfl, a1 ρ1 _ H1 .rfl R1 (ER.set (.int _) i E1)⟩
    · exact a1.elim
  · exact a.elim
end
/-! ### break, continue -/
def sBrk : En → Hea → SRes := fun e h => .bk e h
def sCnt : En → Hea → SRes := fun e h => .ct e h
theorem st_brk {T : Tb} {X : Cx} {W : WX} {pos : Pos} : SSt T X W (.Break pos) sBrk := ps_break.imp fun D σ H q => by
  obtain ⟨ρ, e, h, R, E, a⟩ := q
  exact a ρ σ H .rfl R E
theorem st_cnt {T : Tb} {X : Cx} {W : WX} {pos : Pos} : SSt T X W (.Continue pos) sCnt := ps_continue.imp fun D σ H q => by
  obtain ⟨ρ, e, h, R, E, a⟩ := q
  exact a ρ σ H .rfl R E
end Lad
end
/-! ## LadCall -/
section
set_option maxRecDepth 100000
set_option maxHeartbeats 2000000
namespace Lad
open PySem PySem.Spec PySem.Calls PyProof.Rows L2
open PySem.W (Frag)
/-! ### o(e, ..), o an instance with a __call__ of its own -/
theorem inst_of {X : Cx} {pins : List (Addr × Obj)} {σ : L2.St} {H : Hp} {s : Shared} {a C dx : Addr} {fs : List (Str × V)} (I : Inv X pins σ H s) (e : H a = some (.ins C dx fs)) : ∃ od, PySem.W.InstAt s.heap a (PySem.W.instObj C dx) C (some od) := by
  obtain ⟨mA, O, _, _, _, _⟩ := ins_get I.hok e
  obtain ⟨od, h, _⟩ := O.look
  exact ⟨od, h⟩
section
variable {M : Model} {A : Around} {E : Value → Shared → Prop} {s : Shared} {env : Env} {pos : Pos} {x : Addr} {Q : Value → Shared → Prop}
theorem callWith_ofL {as : List (Bool × Sem Value)} (np : (as.any (·.1) || ([] : List (Option Str × Sem Value)).any (·.1.isNone)) = false)
    (h : wpAny M A (evalArgs (.ref x) true as []) (fun a s1 => PySem.W.Looks M s1.heap (keeperOf (.ref x)) .caller ∧ wpAny M A (call (.ref x) ([] ++ a.pos) a.kw) Q E s1) E s) : wpAny M A (callWith pos (.ref x) [] as []) Q E s := by
  unfold callWith
  apply wpAny_bind
  apply wpAny_holding
  refine wpAny_mono h ?_ (fun _ _ z => z)
  rintro vs s1 ⟨L, hq⟩
  apply wpAny_bind
  apply wpAny_standAt
  simp only [np]
  apply wpAny_bind
  apply L.here
  exact wpAny_bind (wpAny_mono (wpAny_operateT hq) (fun r s2 hr => wpAny_bind (wpAny_holding (wpAny_point (wpAny_pure hr)))) fun _ _ z => z)
theorem callWith_own {e : Expr} {rest : List Expr} (h : wpAny M A (spliced (backTo pos (starEach (e :: rest) env))) (fun vs s1 => PySem.W.Looks M s1.heap (keeperOf (.ref x)) .caller ∧ wpAny M A (call (.ref x) vs) Q E s1) E s)
    (he : starEach (e :: rest) env = (false, eval e env) :: starEach rest env := by rfl) (hpl : (backTo pos (starEach rest env)).any (·.1) = false := by rfl) :
    wpAny M A (callWith pos (.ref x) [] (backTo pos (starEach (e :: rest) env)) []) Q E s := by
  rw [he] at h ⊢
  refine callWith_ofL ?_ (evalArgs_plain h)
  show ((false || (backTo pos (starEach rest env)).any (·.1)) || false) = false
  rw [hpl]
  rfl
end
section
variable {X : Cx} {CX : CXT} {k : Nat} {f C : Addr} {fd : FuncData} {ps : List Str} {sp : Sp} {E : L2.St → XK} {x : Str} {p pos : Pos} {e : Expr} {es : List Expr} {tf : TE} {t : TA}
structure CallC (K : Frag) (C f : Addr) : Prop where
  at_ : PySem.W.findIn K (.ref C) "__call__" = some (some (.ref f))
  fn : PySem.W.isFn K (.ref f) = true
  fi : PySem.W.fnIn K f = true
def tCO (C : Addr) (sp : Sp) (E : L2.St → XK) (tf : TE) (t : TA) : TE := fun σ H Q => tf σ H fun v H1 => ∃ a, v = .ref a ∧ t σ H1 fun vs H2 => (∃ dx fs, H2 a = some (.ins C dx fs)) ∧ sp (v :: vs) H2 Q (E σ)
theorem pe_callO (hf : PE X (.Name x p) tf) (c : CallC X.K C f) (F : FnOk X.prog X.w X.K X.mg X.base CX k f fd ps sp) (hr : Room k X.A) (hb : Binds X.K fd ps []) (hx : ∀ σ, PassesAt CX X σ (E σ)) (ha : PA X (e :: es) t)
    (he : starEach (e :: es) X.env = (false, eval e X.env) :: starEach es X.env := by rfl) (hpl : (backTo pos (starEach es X.env)).any (·.1) = false := by rfl) : PE X (.Call (.Name x p) (e :: es) [] pos) (tCO C sp E tf t) := by
  refine ⟨?_⟩
  intro pins s σ H Q I hw
  have recv := hf.run pins s σ H _ I hw
  refine wpAny_Call_Name_kw (thn recv ?_)
  rintro u s1 ⟨v, H1, I1, rv, a, rfl, w1⟩
  have eu : u = Value.ref a := rv
  subst eu
  have given := ha.run pos pins s1 σ H1 _ I1 w1
  refine callWith_own (thn given ?_) he hpl
  rintro us s2 ⟨vs, H2, I2, rs, ⟨dx, fs, ea⟩, w2⟩
  obtain ⟨od, at2⟩ := inst_of I2 ea
  refine ⟨PySem.W.kco_keeper at2 rfl, ?_⟩
  have all : Vals (V.ref a :: vs) (Value.ref a :: us) := .cons rfl rs
  have len : (Value.ref a :: us).length = ps.length := by
    rw [← all.length]
    exact F.len _ _ _ _ w2
  have bind := hb s2 (Value.ref a :: us) I2.kIn (by rw [List.append_nil]; exact len)
  rw [List.append_nil] at bind
  have body := F.run X.A X.stack s2 H2 ⟨Value.ref a :: us, []⟩ (Value.ref a :: us) (V.ref a :: vs) Q (E σ) hr I2.env0 bind all w2
  apply wpAny_call
  refine PySem.W.kco_code I2.kIn at2 rfl c.at_ c.fn c.fi (codeAny_mono body ?_)
  intro res s3 back
  match res, back with
  | .error er, back => exact hx σ pins _ _ er s3 I2 back
  | .ok (.ret u), back => exact I2.after back
  | .ok .next, back => exact False.elim back
  | .ok .brk, back => exact False.elim back
  | .ok .cont, back => exact False.elim back
end
def eCallO (c : Nat) (cf : List Val → Hea → Res Val) (f : En → Hea → Res Val) (g : En → Hea → Res (List Val)) : En → Hea → Res Val := fun e h => (f e h).bind fun o h1 => match insOf h1 o with
  | some _ => (g e h1).bind fun ds h2 => match insOf h2 o with
    | some (c', _) => if c' = c then cf (o :: ds) h2 else .stuck
    | none => .stuck
  | none => .stuck
section
variable {T : Tb} {X : Cx} {W : WX} {x : Str} {f : Addr} {fd : FuncData} {ps : List Str} {k c : Nat} {cf : List Val → Hea → Res Val} {e : Expr} {es : List Expr} {fo : En → Hea → Res Val} {g : En → Hea → Res (List Val)} {p pos : Pos}
theorem se_callO (C : CallC X.K (T.ca c) f) (F : FnOk X.prog X.w X.K X.mg X.base (L2.CX X.prog X.w) k f fd ps (spEv (sy T X) cf)) (hr : Room k X.A) (hb : Binds X.K fd ps []) (tk : Takes X W) (ho : SE T X W (.Name x p) fo) (ha : SA T X W (e :: es) g)
    (he : starEach (e :: es) X.env = (false, eval e X.env) :: starEach es X.env := by rfl) (hpl : (backTo pos (starEach es X.env)).any (·.1) = false := by rfl) : SE T X W (.Call (.Name x p) (e :: es) [] pos) (eCallO c cf fo g) :=
  (pe_callO (E := WE W) ho C F hr hb (fun σ => passAt tk σ) ha he hpl).imp fun σ H Q q => by
    obtain ⟨ρ, e, h, R, E, a⟩ := q
    unfold eCallO at a
    refine ⟨ρ, e, h, R, E, a.bind.mono fun ov H1 ⟨ρ1, od, h1, s, R1, r1, a1⟩ => ?_⟩
    split at a1
    · rename_i fs0 hx0
      obtain ⟨p, _, _, rfl, _, _⟩ := ins_of R1 r1 hx0
      refine ⟨p, rfl, ρ1, e, h1, R1, E.go s, (AftA.bind a1).mono fun us H2 ⟨ρ2, ds, h2, s2, R2, r2, a2⟩ => ?_⟩
      split at a2
      · rename_i c' fs hx
        split at a2
        · rename_i hc
          subst hc
          obtain ⟨p2, dx, vs, e2, hi, _⟩ := ins_of R2 (r1.go s2) hx
          cases e2
          exact ⟨⟨dx, vs, hi⟩, ρ2, h2, _, R2, .cons (r1.go s2) r2, a2⟩
        · exact a2.elim
      · exact a2.elim
    · exact a1.elim
end
end Lad
end
/-! ## LadHead -/
section
set_option maxRecDepth 100000
set_option maxHeartbeats 2000000
namespace Lad
open PySem L2
open PySem.W (Frag)
/-! ### the head's facts: checks on what the top has left -/
def fdOf (K : Frag) (f : Addr) : FuncData := match K.lookup f with
  | some ⟨_, _, .func fd, _⟩ => fd
  | _ => PySem.W.fnOf "" "" ⟨[], [], none, [], [], none, []⟩ [] ⟨.function, [], false, false, []⟩ .none .none .none .none none .none .none
/-- an own error class with an __init__ of the known shape -/
structure ErD where
  cls : Str
  st : Stmt
  qual : Str
  fld : Str
def erI (K : Frag) (d : ErD) : Addr := He.ma K (He.ga K d.cls) "__init__"
def erW (K : Frag) (d : ErD) : He.FnW := match K.lookup (erI K d) with
  | some ⟨_, _, .func fd, _⟩ => some (fd.name, fd.qualname, fd.params, fd.body, fd.scope, fd.globals, fd.closure.map (fun p => (p.1, 0)), fd.builtins)
  | _ => none
def ErD.val (d : ErD) : He.FnW := some ("__init__", d.qual, defArgs d.st, .stmts (defBody d.st), defScope d.st, mainGlobals, [("__class__", 0)], builtinsNs)
def erCda (K : Frag) (d : ErD) : Addr := match K.lookup (erI K d) with
  | some ⟨_, _, .func fd, _⟩ => (match fd.code with | .ref a => a | _ => 0)
  | _ => 0
def erCc (K : Frag) (d : ErD) : Addr := match K.lookup (erI K d) with
  | some ⟨_, _, .func fd, _⟩ => (match fd.closure with | [(_, a)] => a | _ => 0)
  | _ => 0
def noneB : Value → Bool
  | .none => true
  | _ => false
def eqO (a b : Option (Option Value)) : Bool := decide (a = b)
def erB (file : Str) (B newId initId : String) (bmB : List Value) (K : Frag) (d : ErD) : Bool :=
  let C := He.ga K d.cls
  (match K.lookup (erI K d) with
    | some ⟨_, _, .func fd, _⟩ => noneB fd.defaults && (match fd.code, fd.closure with
      | .ref cda, [(_, cc)] => PySem.W.codeIn K (.ref cda) d.qual &&
        ((match K.lookup cda with
          | some ⟨_, _, .fields vs, _⟩ => (match (vs[2]? : Option Value) with
            | some (.str z _) => file == z
            | _ => false)
          | _ => false) &&
        (match K.lookup cc with
          | some ⟨_, _, .cell (some (.ref D)), _⟩ => decide (D = C)
          | _ => false))
      | _, _ => false)
    | _ => false) &&
  (PySem.W.excInitIn K C bmB newId && (PySem.W.excOver K C bmB && (eqO (PySem.W.findIn K (.ref C) "__setattr__") (some (some (.builtin "object.__setattr__"))) &&
  (eqO (PySem.W.takerIn K C d.fld) (some none) && (eqO (PySem.W.findIn K (.ref C) "__init__") (some (some (.ref (erI K d)))) && (decide (PySem.W.typeIn K (.ref (erI K d)) = some (.type "function")) &&
  (PySem.W.keepIn K (.ref C) && (decide (PySem.W.subIn K (.ref C) (.type "BaseException") = some true) && (decide (PySem.W.subIn K (.ref C) (.type B) = some true) && (decide (PySem.W.typeIn K (.ref C) = some (.type "type")) &&
  (PySem.W.hasDictIn K C && (decide (PySem.W.mroIn K C (.ref C) = some true) && (eqO (PySem.W.nsIn K mainGlobals "super") (some none) && (eqO (PySem.W.nsIn K cStatics "thirdparty.any") (some none) &&
  eqO (PySem.W.ks_superIn K C C "__init__") (some (some (.builtin initId)))))))))))))))))
theorem eqO_ok {a b : Option (Option Value)} (h : eqO a b = true) : a = b := of_decide_eq_true h
theorem noneB_ok {v : Value} (h : noneB v = true) : v = .none := by
  cases v <;> first | rfl | exact absurd h Bool.false_ne_true
theorem ErD.txtM {P : Program} {K : Frag} {d : ErD} {B newId initId : String} {bmB : List Value} (kxs : PySem.W.KxsFacts B initId) (eb : MkFacts newId initId bmB) (sf : PySem.StoreFacts B bmB "object.__setattr__" "object") (ini : InitOk d.st d.fld)
    (hb : ∀ (kV doc pm : Value) (an : Option Addr) (cdv ct : Value) (cc : Addr) (u v : Value), bindArgs (PySem.W.ksFn "__init__" d.qual (defArgs d.st) (defBody d.st) (defScope d.st) .none kV doc pm an cdv ct cc) ⟨[u, v], []⟩ = pure ([("self", u), (d.fld, v)] : List (Str × Value)))
    (top : (P.main.scope.names.lookup ("super" : Str)).isSome = false) (e : erW K d = d.val) (c : erB P.main.file B newId initId bmB K d = true) :
    ExTxt P K d.st (He.ga K d.cls) (erI K d) (erCc K d) (erCda K d) (fdOf K (erI K d)) B newId initId bmB d.fld := by
  unfold erB at c
  simp only [Bool.and_eq_true] at c
  obtain ⟨c0, c1, c2, c3, c4, c5, c6, c7, c8, c9, c10, c11, c12, c13, c14, c15⟩ := c
  unfold erW at e
  cases q : K.lookup (erI K d) with
  | none => rw [q] at c0; exact absurd c0 Bool.false_ne_true
  | some o =>
    obtain ⟨oc, od, dt, osl⟩ := o
    rw [q] at c0 e
    cases dt with
    | func fd =>
      obtain ⟨n1, n2, n3, n4, n5, n6, n7, n8, n9, n10, n11, n12, n13, n14, n15⟩ := fd
      have e2 : (some (n1, n2, n3, n4, n5, n6, n7.map (fun p => (p.1, 0)), n15) : He.FnW) = (some ("__init__", d.qual, defArgs d.st, .stmts (defBody d.st), defScope d.st, mainGlobals, [("__class__", 0)], builtinsNs) : He.FnW) := e
      simp only [Option.some.injEq, Prod.mk.injEq] at e2
      obtain ⟨h1, h2, h3, h4, h5, h6, h7, h8⟩ := e2
      subst h1 h2 h3 h4 h5 h6 h8
      dsimp only at c0
      obtain ⟨k1, k2⟩ := Bool.and_eq_true_iff.mp c0
      obtain rfl := noneB_ok k1
      match n7, h7 with
      | [(nm, cc)], h7 =>
        have e7 : nm = "__class__" := by
          have h8 : ((nm, 0) : Str × Addr) = ((("__class__" : Str), 0) : Str × Addr) := (List.cons.inj h7).1
          exact (Prod.mk.inj h8).1
        subst e7
        cases n13 with
        | ref cda =>
          dsimp only at k2
          obtain ⟨k2, k34⟩ := Bool.and_eq_true_iff.mp k2
          obtain ⟨k3, k4⟩ := Bool.and_eq_true_iff.mp k34
          have efd : fdOf K (erI K d) = PySem.W.ksFn "__init__" d.qual (defArgs d.st) (defBody d.st) (defScope d.st) .none n9 n10 n11 n12 (.ref cda) n14 cc := by unfold fdOf; rw [q]
          have ecd : erCda K d = cda := by unfold erCda; rw [q]
          have ecc : erCc K d = cc := by unfold erCc; rw [q]
          rw [efd, ecd, ecc]
          refine ⟨kxs, eb, sf, ini, c1, c2, eqO_ok c3, eqO_ok c4, eqO_ok c5, of_decide_eq_true c6, c7, of_decide_eq_true c8, of_decide_eq_true c9, of_decide_eq_true c10, c11, of_decide_eq_true c12, eqO_ok c13, eqO_ok c14, eqO_ok c15,
            ⟨_, _, _, _, _, _, _, _, _, _, rfl, q, k2⟩, fun s x v => BindsTo.of_eq (hb _ _ _ _ _ _ _ _ _), ?_, ?_, top⟩
          · split at k3
            · rename_i lk
              split at k3
              · rename_i hv
                exact ⟨_, _, _, _, _, _, lk, hv, k3⟩
              · exact absurd k3 Bool.false_ne_true
            · exact absurd k3 Bool.false_ne_true
          · split at k4
            · rename_i lk
              obtain rfl := of_decide_eq_true k4
              exact ⟨_, _, _, lk⟩
            · exact absurd k4 Bool.false_ne_true
        | _ => exact absurd k2 Bool.false_ne_true
    | _ => exact absurd c0 Bool.false_ne_true
/-- a caught error's class: attributes, isinstance -/
theorem ErD.txt {P : Program} {K : Frag} {d : ErD} {B newId initId : String} {bmB : List Value} (kxs : PySem.W.KxsFacts B initId) (eb : PySem.ExcBaseFacts B newId initId bmB) (sf : PySem.StoreFacts B bmB "object.__setattr__" "object") (ini : InitOk d.st d.fld)
    (hb : ∀ (kV doc pm : Value) (an : Option Addr) (cdv ct : Value) (cc : Addr) (u v : Value), bindArgs (PySem.W.ksFn "__init__" d.qual (defArgs d.st) (defBody d.st) (defScope d.st) .none kV doc pm an cdv ct cc) ⟨[u, v], []⟩ = pure ([("self", u), (d.fld, v)] : List (Str × Value)))
    (top : (P.main.scope.names.lookup ("super" : Str)).isSome = false) (e : erW K d = d.val) (c : erB P.main.file B newId initId bmB K d = true) :
    ExTxt P K d.st (He.ga K d.cls) (erI K d) (erCc K d) (erCda K d) (fdOf K (erI K d)) B newId initId bmB d.fld := ErD.txtM kxs (.of eb) sf ini hb top e c
def excB (K : Frag) (C : Addr) : Bool := xfB K C && (eqO (PySem.W.findIn K (.ref C) "__class__") (some (some (.builtin "object.__class__"))) && (eqO (PySem.W.specialIn K (.builtin "object.__class__") "__get__") (some (some (.builtin "getset_descriptor.__get__"))) &&
  (decide (PySem.W.takesIn K (.builtin "object.__class__") = some true) && decide (PySem.W.mroIn K C (.type "object") = some true))))
theorem excB_ok {K : Frag} {C : Addr} (h : excB K C = true) : XfC K C ∧ ExcC K C := by
  unfold excB at h
  simp only [Bool.and_eq_true] at h
  obtain ⟨h0, h1, h2, h3, h4⟩ := h
  have x := xfB_ok h0
  exact ⟨x, ⟨x.ga, x.gg, x.exC, x.hdC, eqO_ok h1, eqO_ok h2, of_decide_eq_true h3, of_decide_eq_true h4⟩⟩
/-! ### a def without defaults -/
theorem fun_of {K : Frag} {d : He.DefD} {x qual : Str} {st : Stmt} (hd : d = ⟨d.at_, x, qual, defArgs st, defBody st, defScope st, [], []⟩) (e : He.fnW K d.at_ = d.val) (c : d.ok K = true) : Fun K x qual st (He.fAd K d.at_) (fdOf K (He.fAd K d.at_)) := by
  obtain ⟨fd, F⟩ := He.DefD.funD e c
  obtain ⟨oc, od, dV, kV, doc, pm, an, cdv, ct, osl, rfl, lk, hcd, hdf, _⟩ := F.ex
  have dn : dV = .none := by
    rcases hdf with ⟨_, h⟩ | ⟨h, _⟩
    · exact h
    · rw [hd] at h
      exact absurd rfl h
  subst dn
  have ef : fdOf K (He.fAd K d.at_) = PySem.W.fnOf d.name d.qual d.params d.body d.scope .none kV doc pm an cdv ct := by unfold fdOf; rw [lk]
  rw [ef]
  obtain ⟨at_, _, _, _, _, _, _, _⟩ := d
  cases hd
  exact ⟨⟨oc, od, kV, doc, pm, an, cdv, ct, osl, rfl, lk, hcd⟩, F.kp⟩
/-! ### the Hook -/
abbrev Chk : Type := Frag → Bool
abbrev AlL : Type := Bool × List He.FnW × List He.FnW
def startA : List Addr := [mainGlobals, cStatics]
def asL (g : Addr → Option Obj) : Nat → List Addr
  | 0 => startA
  | n + 1 => He.growD g (asL g n)
def obsL (fa : List Chk) (fn : List He.DefD) (er : List ErD) (K : Frag) : AlL := ((fa.all fun f => f K) && fn.all fun d => d.ok K, fn.map fun d => He.fnW K d.at_, er.map fun d => erW K d)
def valL (fn : List He.DefD) (er : List ErD) : AlL := (true, fn.map He.DefD.val, er.map ErD.val)
def SaysL (fa : List Chk) (fn : List He.DefD) (er : List ErD) (K : Frag) : Prop := obsL fa fn er K = valL fn er
def obsLG (n : Nat) (fa : List Chk) (fn : List He.DefD) (er : List ErD) (g : Addr → Option Obj) : AlL := obsL fa fn er (He.frG g (asL g n))
def hookL (n : Nat) (fa : List Chk) (fn : List He.DefD) (er : List ErD) : PySem.W.Hook where
  α := AlL
  obs := fun s => obsLG n fa fn er s.heap.get?
  val := fun _ => valL fn er
  says := fun _ h => ∃ K : Frag, K.In h ∧ SaysL fa fn er K
  of := fun _ _ e => ⟨_, He.frG_in, e⟩
  keeps := fun _ _ _ ⟨K, hK, c⟩ k => ⟨K, PySem.W.Frag.In.keeps hK k, c⟩
theorem obsLG_eq {n : Nat} {fa : List Chk} {fn : List He.DefD} {er : List ErD} {g : Addr → Option Obj} {s : Shared} (h : ∀ a, g a = s.heap.get? a) : obsLG n fa fn er g = (hookL n fa fn er).obs s := by
  have e : g = s.heap.get? := funext h
  rw [e] <;> rfl
section
variable {fa : List Chk} {fn : List He.DefD} {er : List ErD} {K : Frag}
theorem SaysL.fact (c : SaysL fa fn er K) (i : Nat) {f : Chk} (h : fa[i]? = some f := by rfl) : f K = true := by
  have c1 := (Bool.and_eq_true_iff.mp (show ((fa.all fun f => f K) && fn.all fun d => d.ok K) = true from congrArg (fun z : AlL => z.1) c)).1
  exact List.all_eq_true.mp c1 f (List.mem_of_getElem? h)
theorem SaysL.fn_ (c : SaysL fa fn er K) (i : Nat) {d : He.DefD} (h : fn[i]? = some d) : He.fnW K d.at_ = d.val ∧ d.ok K = true := by
  have c2 := (Bool.and_eq_true_iff.mp (show ((fa.all fun f => f K) && fn.all fun d => d.ok K) = true from congrArg (fun z : AlL => z.1) c)).2
  have e : fn.map (fun d => He.fnW K d.at_) = fn.map He.DefD.val := congrArg (fun z : AlL => z.2.1) c
  have e2 : (fn.map fun d => He.fnW K d.at_)[i]? = (fn.map He.DefD.val)[i]? := by rw [e]
  rw [List.getElem?_map, List.getElem?_map, h] at e2
  exact ⟨Option.some.inj e2, List.all_eq_true.mp c2 d (List.mem_of_getElem? h)⟩
theorem SaysL.er_ (c : SaysL fa fn er K) (i : Nat) {d : ErD} (h : er[i]? = some d) : erW K d = d.val := by
  have e : er.map (fun d => erW K d) = er.map ErD.val := congrArg (fun z : AlL => z.2.2) c
  have e2 : (er.map fun d => erW K d)[i]? = (er.map ErD.val)[i]? := by rw [e]
  rw [List.getElem?_map, List.getElem?_map, h] at e2
  exact Option.some.inj e2
end
end Lad
end
/-! ## LadOwn -/
section
set_option maxRecDepth 100000
set_option maxHeartbeats 2000000
namespace Lad
open PySem PySem.Spec PySem.Calls PyProof.Rows L2
open PySem.W (Frag)
/-! ### what an own class is -/
structure OwnC (K : Frag) (C : Addr) : Prop where
  cl : Cls K C
  ha : PySem.W.findIn K (.ref C) "__class__" = some (some (.builtin "object.__class__"))
  hn : PySem.W.specialIn K (.builtin "object.__class__") "__get__" = some (some (.builtin "getset_descriptor.__get__"))
  ht : PySem.W.takesIn K (.builtin "object.__class__") = some true
  hm : PySem.W.mroIn K C (.type "object") = some true
def ownB (K : Frag) (C : Addr) : Bool := PySem.W.plainGet K C Str.empty && (PySem.W.hasDictIn K C && (PySem.W.plainOver K C && (eqO (PySem.W.findIn K (.ref C) "__setattr__") (some (some (.builtin "object.__setattr__"))) &&
  (eqO (PySem.W.findIn K (.ref C) "__class__") (some (some (.builtin "object.__class__"))) && (eqO (PySem.W.specialIn K (.builtin "object.__class__") "__get__") (some (some (.builtin "getset_descriptor.__get__"))) &&
  (decide (PySem.W.takesIn K (.builtin "object.__class__") = some true) && decide (PySem.W.mroIn K C (.type "object") = some true)))))))
theorem ownB_ok {K : Frag} {C : Addr} (h : ownB K C = true) : OwnC K C := by
  unfold ownB at h
  simp only [Bool.and_eq_true] at h
  obtain ⟨h0, h1, h2, h3, h4, h5, h6, h7⟩ := h
  exact ⟨⟨h0, h1, h2, eqO_ok h3⟩, eqO_ok h4, eqO_ok h5, of_decide_eq_true h6, of_decide_eq_true h7⟩
inductive TY where
  | bt (k : TK) | cl (c : Nat)
def tyY (h : Hea) (d : Val) : Option TY := match insOf h d with
  | some (c, _) => some (.cl c)
  | none => (tyK h d).map .bt
def TY.v (S : Sy) : TY → Value
  | .bt k => .type k.nm
  | .cl c => .ref (S.ca c)
theorem tyY_ok {S : Sy} {ρ : Own} {H : Hp} {h : Hea} {d : Val} {v : V} {t : TY} (R : Rel S ρ h H) (r : Rep S ρ H d v) (e : tyY h d = some t) (ho : ∀ c, t = .cl c → OwnC S.K (S.ca c)) : TyX S.K H v (t.v S) := by
  unfold tyY at e
  split at e
  · rename_i c fs hx
    cases e
    obtain ⟨a, dx, ps, rfl, hi, _⟩ := ins_of R r hx
    have o := ho c rfl
    exact .base (.ins hi o.cl o.ha o.hn o.ht o.hm)
  · obtain ⟨k, e1, rfl⟩ := map_some e
    exact tyK_ok R r e1
/-! ### isinstance(x, C), C an own class -/
def kitB2 (K : Frag) (C : Addr) : Bool := [TK.non, .bool, .int, .str, .tuple, .list, .dict].all fun k => decide (PySem.W.kitOne K (.type k.nm) (.ref C) = some false)
theorem kitB2_ok {K : Frag} {C : Addr} (h : kitB2 K C = true) (k : TK) : PySem.W.kitOne K (.type k.nm) (.ref C) = some false := by
  unfold kitB2 at h
  rw [List.all_eq_true] at h
  exact of_decide_eq_true (h k (by cases k <;> simp))
def oIsO (tab : Nat → Option Bool) (h : Hea) (d : Val) : Option Val := match tyY h d with
  | some (.bt _) => some (.bl false)
  | some (.cl c) => (tab c).map .bl
  | none => none
section
variable {T : Tb} {X : Cx} {W : WX} {a : Expr} {f : En → Hea → Res Val} {pos p p1 : Pos}
theorem se_isO {x : Str} {tab : Nat → Option Bool} {C : Addr} (hg : Gl X "isinstance") (hm : X.mg "isinstance" = none) (hk : kitB2 X.K C = true) (ht : ∀ c b, tab c = some b → OwnC X.K (T.ca c) ∧ PySem.W.kitOne X.K (.ref (T.ca c)) (.ref C) = some b) (ha : SE T X W a f) (hb : PE X (.Name x p1) (tC (.ref C)))
    (hs : starEach (a :: [.Name x p1]) X.env = (false, eval a X.env) :: starEach [.Name x p1] X.env := by rfl) :
    SE T X W (.Call (.Name "isinstance" p) [a, .Name x p1] [] pos) (eUn (oIsO tab) f) := by
  refine PE.imp (pe_callB call_isi hg hm (by decide +kernel) (pa_cons ha (pa_cons hb pa_nil) hs) (he := hs)) fun σ H Q q => ?_
  obtain ⟨ρ, e, h, R, E, a⟩ := tE.bind (f := f) (g := fun e x h1 => opt (oIsO tab h1 x) h1) q
  refine ⟨ρ, e, h, R, E, a.mono fun v H1 ⟨ρ1, e1, d1, h1, b1, a1⟩ => ?_⟩
  obtain ⟨R1, E1, r1⟩ := b1
  show rIsi X.K [v, .ref C] H1 Q
  unfold oIsO at a1
  cases hk2 : tyY h1 d1 with
  | none => rw [hk2] at a1; exact a1.elim
  | some t =>
    rw [hk2] at a1
    cases t with
    | bt k =>
      refine ⟨v, _, _, _, false, rfl, .own _, tyY_ok R1 r1 hk2 (fun c z => nomatch z), kitB2_ok hk k, ?_⟩
      exact Aft.same (d := .bl false) a1 R1 (.bl _)
    | cl c =>
      dsimp only at a1
      cases htab : tab c with
      | none => rw [htab] at a1; exact a1.elim
      | some b =>
        rw [htab] at a1
        obtain ⟨h2, h3⟩ := ht c b htab
        refine ⟨v, _, _, _, b, rfl, .own _, tyY_ok R1 r1 hk2 (fun c' z => by cases z; exact h2), h3, ?_⟩
        exact Aft.same (d := .bl b) a1 R1 (.bl _)
end
/-! ### own operators -/
structure Dun (K : Frag) (C : Addr) (m : Str) (f : Addr) : Prop where
  at_ : PySem.W.findIn K (.ref C) m = some (some (.ref f))
  fn : PySem.W.isFn K (.ref f) = true
  fi : PySem.W.fnIn K f = true
def dunB (m : Str) (K : Frag) (C : Addr) : Bool := eqO (PySem.W.findIn K (.ref C) m) (some (some (.ref (He.ma K C m)))) && (PySem.W.isFn K (.ref (He.ma K C m)) && PySem.W.fnIn K (He.ma K C m))
theorem dunB_ok {m : Str} {K : Frag} {C : Addr} (h : dunB m K C = true) : Dun K C m (He.ma K C m) := by
  unfold dunB at h
  simp only [Bool.and_eq_true] at h
  exact ⟨eqO_ok h.1, h.2.1, h.2.2⟩
section
variable {X : Cx} {CX : CXT} {k : Nat} {f C : Addr} {fd : FuncData} {ps : List Str} {sp : Sp} {E : L2.St → XK} {pins : List (Addr × Obj)} {σ : L2.St} {H : Hp} {s : Shared}
theorem run_ow {A : Around} {Q : VK} {us : List Value} {vs : List V} (F : FnOk X.prog X.w X.K X.mg X.base CX k f fd ps sp) (hr : Room k A) (e0 : Env0 X.prog X.w X.K X.mg X.base A X.stack s H) (hb : Binds X.K fd ps []) (hx : PassesAt CX X σ (E σ))
    (I : Inv X pins σ H s) (r : Vals vs us) (h : sp vs H Q (E σ)) : wpAny (model X.prog X.w) A (call (.ref f) us) (EP X pins σ Q) X.xe s := by
  have hl : us.length = ps.length := by rw [← r.length]; exact F.len _ _ _ _ h
  have b := hb s us I.kIn (by rw [List.append_nil]; exact hl)
  rw [List.append_nil] at b
  refine wpAny_call (codeAny_mono (F.run A X.stack s H ⟨us, []⟩ us vs Q (E σ) hr e0 b r h) fun r s' hq => ?_)
  cases r with
  | error e => exact hx pins H s e s' I hq
  | ok fl =>
    cases fl with
    | ret u => exact I.after hq
    | next => exact False.elim hq
    | brk => exact False.elim hq
    | cont => exact False.elim hq
theorem notFirst_bt {K : Frag} {C : Addr} (k : TK) : PySem.W.notFirst K C (.type k.nm) = true := by
  have e : PySem.W.subIn K (.type k.nm) (.ref C) = some false := by
    cases k
    · show (fastBuiltinMro "NoneType").map (·.contains (.ref C)) = some false
      rw [show fastBuiltinMro "NoneType" = some [.type "NoneType", .type "object"] by decide +kernel]; simp
    · show (fastBuiltinMro "bool").map (·.contains (.ref C)) = some false
      rw [show fastBuiltinMro "bool" = some [.type "bool", .type "int", .type "object"] by decide +kernel]; simp
    · show (fastBuiltinMro "int").map (·.contains (.ref C)) = some false
      rw [show fastBuiltinMro "int" = some [.type "int", .type "object"] by decide +kernel]; simp
    · show (fastBuiltinMro "str").map (·.contains (.ref C)) = some false
      rw [show fastBuiltinMro "str" = some [.type "str", .type "object"] by decide +kernel]; simp
    · show (fastBuiltinMro "tuple").map (·.contains (.ref C)) = some false
      rw [show fastBuiltinMro "tuple" = some [.type "tuple", .type "object"] by decide +kernel]; simp
    · show (fastBuiltinMro "list").map (·.contains (.ref C)) = some false
      rw [show fastBuiltinMro "list" = some [.type "list", .type "object"] by decide +kernel]; simp
    · show (fastBuiltinMro "dict").map (·.contains (.ref C)) = some false
      rw [show fastBuiltinMro "dict" = some [.type "dict", .type "object"] by decide +kernel]; simp
  unfold PySem.W.notFirst
  rw [e]
  simp
/-- != of an own class that has == alone -/
theorem ifBound_objNe {M : Model} {A : Around} {E : Value → Shared → Prop} {K : Frag} {x C : Addr} {ox : Obj} {od : Option Obj} {args : List Value} {Q : Option Value → Shared → Prop} (X : K.In s.heap) (I : PySem.W.InstAt s.heap x ox C od) (hs : PySem.W.findIn K (.ref C) "__ne__" = some (some (.builtin "object.__ne__")))
    (h : wpAny M A (call (.builtin "object.__ne__") (.ref x :: args)) (fun v => Q (some v)) E s) : wpAny M A (callSpecialIfBound? (.ref x) "__ne__" args) Q E s := by
  simp only [callSpecialIfBound?, bindSpecialIfBound?]
  refine wpAny_holding (wpAny_bind (wpAny_bind (wpAny_bind (I.type.here ((PySem.W.looks_findIn X hs).here ?_)))))
  refine wpAny_bind (wpAny_askSetting (wpAny_ite ?_))
  have fin : wpAny M A (call (.builtin "object.__ne__") ([.ref x] ++ args) >>= fun v => pure (some v)) Q E s := wpAny_bind (wpAny_mono h (fun v s' h' => wpAny_pure h') fun _ _ h' => h')
  split
  · exact wpAny_bind (wpAny_of_eq (F.cmp_object.ne.bind _) (wpAny_pure (by exact fin)))
  · exact wpAny_tryCatch (wpAny_bind (wpAny_of_eq (F.cmp_object.ne.bind _) (wpAny_pure (by exact fin))))
theorem objNe_own {prog : Program} {w : World} {A : Around} {E : Value → Shared → Prop} {K : Frag} {x C f : Addr} {ox : Obj} {od : Option Obj} {b : Value} {Q : Fin → Shared → Prop} (X : K.In s.heap) (I : PySem.W.InstAt s.heap x ox C od) (hu : A.units < cLine)
    (hs : PySem.W.findIn K (.ref C) "__eq__" = some (some (.ref f))) (hf : PySem.W.isFn K (.ref f) = true)
    (hcall : wpAny (model prog w) A (call (.ref f) [.ref x, b]) (fun v s' => ∃ c, v = .bool c ∧ Q (.done (.ret (.bool (!c)))) s') E s) :
    wpAny (model prog w) A (Builtin.«object.__ne__» ⟨[.ref x, b], []⟩) Q E s := by
  unfold Builtin.«object.__ne__»
  repeat (first
    | with_reducible refine wpAny_cRoomFor hu ?_
    | (refine wpAny_bind (m := callSpecialIfBound? (.ref x) (Str.ofString "__eq__") [b])
        (PySem.W.ifBound_K X I hs hf (wpAny_mono hcall (fun r s' hr => by
          obtain ⟨c, rfl, hq⟩ := hr
          repeat (first | exact hq | exact wpAny_pure hq | exact wpAny_truthy_bool hq | (refine wpAny_bind (m := truthy (.bool _)) (wpAny_truthy_bool ?_)) | wp_step)) fun _ _ e => e)))
    | wp_step)
theorem ne_K {prog : Program} {w : World} {A : Around} {E : Value → Shared → Prop} {K : Frag} {x C f : Addr} {ox : Obj} {od : Option Obj} {b tb : Value} {Q : Value → Shared → Prop} (hu : A.units + 1 < cLine) (X : K.In s.heap) (I : PySem.W.InstAt s.heap x ox C od)
    (hb : PySem.W.Looks (model prog w) s.heap (typeOf b) tb) (hn : PySem.W.notFirst K C tb = true) (hm : PySem.W.mroIn K C (.type "object") = some true) (hne : PySem.W.findIn K (.ref C) "__ne__" = some (some (.builtin "object.__ne__")))
    (hs : PySem.W.findIn K (.ref C) "__eq__" = some (some (.ref f))) (hf : PySem.W.isFn K (.ref f) = true)
    (h : wpAny (model prog w) A.in1 (call (.ref f) [.ref x, b]) (fun v s' => ∃ c, v = .bool c ∧ Q (.bool (!c)) s') E s) : wpAny (model prog w) A (richCompare .NotEq (.ref x) b) Q E s := by
  have one : wpAny (model prog w) A (tryCompare (.ref x) "__ne__" b) (fun r s' => ∃ v, r = some v ∧ Q v s') E s := by
    unfold tryCompare
    refine wpAny_bind (ifBound_objNe X I hne ?_)
    refine wpAny_call (codeAny_call_builtin F.cmp_object.ne.plain F.cmpEntry_ne (PySem.W.check_slot F.cmpKind_ne F.cmpSplit_ne (I.type.andThen (PySem.W.looks_mroIn X hm)) (F.cmpArgs_ne _ _) ?_))
    refine objNe_own (A := A.in1) X I hu hs hf (wpAny_mono h (fun v s' hv => ?_) fun _ _ e => e)
    obtain ⟨c, rfl, hq⟩ := hv
    exact ⟨c, rfl, wpAny_pure ⟨_, rfl, hq⟩⟩
  unfold richCompare
  simp only [oneThing_ref]
  refine wpAny_holding (wpAny_bind (wpAny_cRoomFor (Nat.lt_of_succ_lt hu) ?_))
  rw [cmpInfo_NotEq]
  dsimp only
  refine wpAny_bind (I.type.here (wpAny_bind (hb.here ?_)))
  split
  · rename_i q
    have e : PySem.W.subIn K tb (.ref C) = some false := by
      rcases Bool.or_eq_true_iff.mp hn with e | e
      · rw [beq_iff_eq.mp e] at q; simp at q
      · exact beq_iff_eq.mp e
    refine wpAny_bind ((PySem.W.looks_subIn X e).here ?_)
    simp only [Bool.false_eq_true, if_false]
    refine wpAny_bind (wpAny_mono one (fun r s' z => ?_) fun _ _ e => e)
    obtain ⟨v, rfl, hq⟩ := z
    exact wpAny_pure hq
  · refine wpAny_bind (wpAny_pure ?_)
    simp only [Bool.false_eq_true, if_false]
    refine wpAny_bind (wpAny_mono one (fun r s' z => ?_) fun _ _ e => e)
    obtain ⟨v, rfl, hq⟩ := z
    exact wpAny_pure hq
end
/-! ### rules -/
section
variable {X : Cx} {CX : CXT} {k : Nat} {f C : Addr} {fd : FuncData} {ps : List Str} {sp : Sp} {E : L2.St → XK} {a b : Expr} {ta tb : TE} {pos : Pos}
def tBO (r : L2.St → V → V → Hp → VK → Prop) (ta tb : TE) : TE := fun σ H Q => ta σ H fun x H1 => tb σ H1 fun y H2 => r σ x y H2 Q
def OpS (X : Cx) (op : CmpOp) (r : L2.St → V → V → Hp → VK → Prop) : Prop :=
  ∀ (pins : List (Addr × Obj)) (s : Shared) (σ : L2.St) (H : Hp) (x y : V) (v u : Value) (Q : VK), Inv X pins σ H s → RelV x v → RelV y u → r σ x y H Q → wpAny (model X.prog X.w) X.A (compareOp op v u) (EP X pins σ Q) X.xe s
theorem pe_BO {op : CmpOp} {r : L2.St → V → V → Hp → VK → Prop} (ho : OpS X op r) (h1 : PE X a ta) (h2 : PE X b tb) (hm : behindInMarks op b = false) : PE X (.Compare a [op] [b] pos) (tBO r ta tb) :=
  ⟨fun pins s σ H Q I h => wpAny_Compare1 (binT h1 h2 I h fun v u s2 x y H2 I2 rx ry q => ho pins s2 σ H2 x y v u Q I2 rx ry q) hm⟩
theorem pt_BO {op : CmpOp} {r : L2.St → V → V → Hp → VK → Prop} (ho : OpS X op r) (h1 : PE X a ta) (h2 : PE X b tb) (hm : behindInMarks op b = false) : PT X (.Compare a [op] [b] pos) (tB (tBO r ta tb)) := by
  refine ⟨fun pins s σ H Q I h => ?_⟩
  refine wpAny_isTrue_Compare1 (thn (h1.run pins s σ H _ I h) fun v s1 ⟨x, H1, I1, r1, q1⟩ => thn (h2.run pins s1 σ H1 _ I1 q1) fun u s2 ⟨y, H2, I2, r2, q2⟩ =>
    thn (ho pins s2 σ H2 x y v u _ I2 r1 r2 q2) fun c s3 ⟨z, H3, I3, r3, k, e, q3⟩ => ?_) hm
  subst e
  cases r3
  exact wpAny_truthy_bool ⟨H3, I3, q3⟩
/-- x op y by a def of x's class -/
def rCmpO (K : Frag) (C : Addr) (sp : Sp) (E : L2.St → XK) : L2.St → V → V → Hp → VK → Prop := fun σ x y H Q => ∃ a dx fs ty, x = .ref a ∧ H a = some (.ins C dx fs) ∧ TyX K H y ty ∧ PySem.W.notFirst K C ty = true ∧ sp [x, y] H Q (E σ)
theorem cmpO {op : CmpOp} (hop : ∀ a b, compareOp op a b = richCompare op a b) (D : Dun X.K C (cmpInfo op).2.1 f) (F : FnOk X.prog X.w X.K X.mg X.base CX k f fd ps sp) (hr : Room k X.A) (hb : Binds X.K fd ps []) (hx : ∀ σ, PassesAt CX X σ (E σ))
    {pins : List (Addr × Obj)} {σ : L2.St} {H : Hp} {s : Shared} {x y : V} {v u : Value} {Q : VK} (I : Inv X pins σ H s) (rx : RelV x v) (ry : RelV y u) (q : rCmpO X.K C sp E σ x y H Q) : wpAny (model X.prog X.w) X.A (compareOp op v u) (EP X pins σ Q) X.xe s := by
  obtain ⟨a, dx, fs, ty, rfl, ha, hty, hn, q⟩ := q
  obtain rfl : v = Value.ref a := rx
  obtain ⟨od, J⟩ := inst_of I ha
  obtain ⟨P, Z, p, _⟩ := kit_of I ry hty
  obtain ⟨m, hF⟩ := I.fr
  rw [hop]
  refine PySem.W.cmp_K (op := op) (tb := ty) hr.units0 hF I.ok.mod.kin J (Z.ty _ _ I.kIn p) hn D.at_ D.fn ?_
  refine wpAny_mono (run_ow (us := [.ref a, u]) (vs := [.ref a, y]) F hr I.env0 hb (hx σ) I (.cons rfl (.cons ry .nil)) q) (fun w s' z => ?_) fun _ _ x => x
  obtain ⟨z', H', I', rz, qz⟩ := z
  exact SlX.cmpback rz ⟨z', H', I', rz, qz⟩
theorem os_cmp {op : CmpOp} (hop : ∀ a b, compareOp op a b = richCompare op a b) (D : Dun X.K C (cmpInfo op).2.1 f) (F : FnOk X.prog X.w X.K X.mg X.base CX k f fd ps sp) (hr : Room k X.A) (hb : Binds X.K fd ps []) (hx : ∀ σ, PassesAt CX X σ (E σ)) : OpS X op (rCmpO X.K C sp E) :=
  fun pins s σ H x y v u Q I rx ry q => cmpO hop D F hr hb hx I rx ry q
/-- x != y by an own == -/
def rNeO (K : Frag) (C : Addr) (sp : Sp) (E : L2.St → XK) : L2.St → V → V → Hp → VK → Prop := fun σ x y H Q => ∃ a dx fs ty, x = .ref a ∧ H a = some (.ins C dx fs) ∧ TyX K H y ty ∧ PySem.W.notFirst K C ty = true ∧ sp [x, y] H (fun z H' => ∃ c, z = .bl c ∧ Q (.bl (!c)) H') (E σ)
theorem os_neO (D : Dun X.K C "__eq__" f) (hne : PySem.W.findIn X.K (.ref C) "__ne__" = some (some (.builtin "object.__ne__"))) (hmro : PySem.W.mroIn X.K C (.type "object") = some true) (F : FnOk X.prog X.w X.K X.mg X.base CX k f fd ps sp) (hr : Room (k + 1) X.A) (hb : Binds X.K fd ps []) (hx : ∀ σ, PassesAt CX X σ (E σ)) : OpS X .NotEq (rNeO X.K C sp E) := by
  intro pins s2 σ H2 x y v u Q I2 rx ry q
  obtain ⟨a, dx, fs, ty, rfl, ha, hty, hn, q⟩ := q
  obtain rfl : v = Value.ref a := rx
  obtain ⟨od, J⟩ := inst_of I2 ha
  obtain ⟨P, Z, p, _⟩ := kit_of I2 ry hty
  show wpAny _ _ (richCompare .NotEq _ _) _ _ _
  refine ne_K (tb := ty) (by have := hr.un; omega) I2.kIn J (Z.ty _ _ I2.kIn p) hn hmro hne D.at_ D.fn ?_
  refine wpAny_mono (run_ow (us := [.ref a, u]) (vs := [.ref a, y]) F hr.in1 I2.env0.in1 hb (hx σ) I2 (.cons rfl (.cons ry .nil)) q) (fun w s' z => ?_) fun _ _ x => x
  obtain ⟨z', H', I', rz, c, rfl, qz⟩ := z
  obtain rfl : w = Value.bool c := rz
  exact ⟨c, rfl, .bl (!c), H', I', rfl, qz⟩
/-- x in y by an own def of y's class -/
def rInO (C : Addr) (ng : Bool) (sp : Sp) (E : L2.St → XK) : L2.St → V → V → Hp → VK → Prop := fun σ x y H Q => ∃ a dx fs, y = .ref a ∧ H a = some (.ins C dx fs) ∧ sp [y, x] H (fun z H' => ∃ c, z = .bl c ∧ Q (.bl (if ng = true then !c else c)) H') (E σ)
theorem os_inO (D : Dun X.K C "__contains__" f) (F : FnOk X.prog X.w X.K X.mg X.base CX k f fd ps sp) (hr : Room k X.A) (hb : Binds X.K fd ps []) (hx : ∀ σ, PassesAt CX X σ (E σ)) : OpS X .In (rInO C false sp E) := by
  intro pins s2 σ H2 x y v u Q I2 rx ry q
  obtain ⟨a, dx, fs, rfl, ha, q⟩ := q
  obtain rfl : u = Value.ref a := ry
  obtain ⟨od, J⟩ := inst_of I2 ha
  obtain ⟨m, hF⟩ := I2.fr
  refine PySem.W.in_K hF I2.ok.mod.kin J D.at_ D.fn ?_
  refine wpAny_mono (run_ow (us := [.ref a, v]) (vs := [.ref a, x]) F hr I2.env0 hb (hx σ) I2 (.cons rfl (.cons rx .nil)) q) (fun w s' z => ?_) fun _ _ x => x
  obtain ⟨z', H', I', rz, c, rfl, qz⟩ := z
  obtain rfl : w = Value.bool c := rz
  exact wpAny_truthy_bool ⟨.bl c, H', I', rfl, qz⟩
theorem os_notInO (D : Dun X.K C "__contains__" f) (F : FnOk X.prog X.w X.K X.mg X.base CX k f fd ps sp) (hr : Room k X.A) (hb : Binds X.K fd ps []) (hx : ∀ σ, PassesAt CX X σ (E σ)) : OpS X .NotIn (rInO C true sp E) := by
  intro pins s2 σ H2 x y v u Q I2 rx ry q
  obtain ⟨a, dx, fs, rfl, ha, q⟩ := q
  obtain rfl : u = Value.ref a := ry
  obtain ⟨od, J⟩ := inst_of I2 ha
  obtain ⟨m, hF⟩ := I2.fr
  refine PySem.W.notIn_K hF I2.ok.mod.kin J D.at_ D.fn ?_
  refine wpAny_mono (run_ow (us := [.ref a, v]) (vs := [.ref a, x]) F hr I2.env0 hb (hx σ) I2 (.cons rfl (.cons rx .nil)) q) (fun w s' z => ?_) fun _ _ x => x
  obtain ⟨z', H', I', rz, c, rfl, qz⟩ := z
  obtain rfl : w = Value.bool c := rz
  exact wpAny_truthy_bool ⟨.bl (!c), H', I', rfl, qz⟩
/-- x[y] by an own def of x's class -/
def rIxO (C : Addr) (sp : Sp) (E : L2.St → XK) : L2.St → V → V → Hp → VK → Prop := fun σ x y H Q => ∃ a dx fs, x = .ref a ∧ H a = some (.ins C dx fs) ∧ sp [x, y] H Q (E σ)
theorem pe_ixO (D : Dun X.K C "__getitem__" f) (F : FnOk X.prog X.w X.K X.mg X.base CX k f fd ps sp) (hr : Room (k + 1) X.A) (hb : Binds X.K fd ps []) (hx : ∀ σ, PassesAt CX X σ (E σ)) (h1 : PE X a ta) (h2 : PE X b tb)
    (hsl : ∀ v i, subscripted b true v i = runValue (.builtin "lifetime.subscript" ⟨[v, i], []⟩) := by intro _ _; with_unfolding_all rfl) : PE X (.Subscript a b pos) (tBO (rIxO C sp E) ta tb) :=
  ⟨fun pins s σ H Q I h => Subscript_ (binT h1 h2 I h fun v u s2 x y H2 I2 rx ry q => by
    obtain ⟨a, dx, fs, rfl, ha, q⟩ := q
    obtain rfl : v = Value.ref a := rx
    obtain ⟨od, J⟩ := inst_of I2 ha
    obtain ⟨m, hF⟩ := I2.fr
    exact PySem.W.sub_K hF I2.ok.mod.kin J D.at_ D.fi D.fn (run_ow (us := [.ref a, u]) (vs := [.ref a, y]) F hr.in1 I2.env0.in1 hb (hx σ) I2 (.cons rfl (.cons ry .nil)) q) (hsl _ _))⟩
/-- len(x) by an own def -/
def rLenO (C : Addr) (sp : Sp) : List V → Hp → VK → Prop := fun xs H Q => ∃ a dx fs, xs = [.ref a] ∧ H a = some (.ins C dx fs) ∧ sp [.ref a] H (fun z H' => ∃ n : Int, z = .int n ∧ 0 ≤ n ∧ n < 2 ^ 63 ∧ Q z H') (fun _ _ _ => False)
theorem call_lenO (D : Dun X.K C "__len__" f) (F : FnOk X.prog X.w X.K X.mg X.base (L2.CX X.prog X.w) k f fd ps sp) (hr : Room (k + 1) X.A) (hb : Binds X.K fd ps []) : CallR X (.builtin "len") (rLenO C sp) := by
  intro pins s σ H xs us Q I r h
  obtain ⟨a, dx, fs, rfl, ha, q⟩ := h
  obtain ⟨u, rfl, ru⟩ := r.one
  obtain rfl : u = Value.ref a := ru
  obtain ⟨od, J⟩ := inst_of I ha
  obtain ⟨m, hF⟩ := I.fr
  refine PySem.W.len_K hF I.ok.mod.kin J D.at_ D.fn (wpAny_mono (run_ow (E := fun _ _ _ _ => False) (us := [.ref a]) (vs := [.ref a]) F hr.in1 I.env0.in1 hb (passAt takes0 σ) I (.cons rfl .nil) q) (fun w s' z => ?_) fun _ _ x => x)
  obtain ⟨z', H', I', rz, n, rfl, h0, h1, qz⟩ := z
  obtain ⟨t, rfl⟩ : ∃ t, w = Value.int n t := rz
  exact ⟨⟨h0, h1⟩, .int n, H', I'.tok _, ⟨_, rfl⟩, qz⟩
end
/-! ### evaluators -/
def okTY (okc : Nat → Bool) : TY → Bool
  | .bt _ => true
  | .cl c => okc c
def eCmpO (c : Nat) (okc : Nat → Bool) (cf : List Val → Hea → Res Val) (f1 f2 : En → Hea → Res Val) : En → Hea → Res Val := fun e h => (f1 e h).bind fun x h1 => (f2 e h1).bind fun y h2 => match insOf h2 x, tyY h2 y with
  | some (c', _), some t => if c' = c ∧ okTY okc t = true then cf [x, y] h2 else .stuck
  | _, _ => .stuck
def notR (r : Res Val) : Res Val := r.bind fun z h => match z with
  | .bl b => .ok (.bl (!b)) h
  | _ => .stuck
def eNeO (c : Nat) (okc : Nat → Bool) (cf : List Val → Hea → Res Val) (f1 f2 : En → Hea → Res Val) : En → Hea → Res Val := fun e h => (f1 e h).bind fun x h1 => (f2 e h1).bind fun y h2 => match insOf h2 x, tyY h2 y with
  | some (c', _), some t => if c' = c ∧ okTY okc t = true then notR (cf [x, y] h2) else .stuck
  | _, _ => .stuck
def blR (ng : Bool) (r : Res Val) : Res Val := r.bind fun z h => match z with
  | .bl b => .ok (.bl (if ng = true then !b else b)) h
  | _ => .stuck
def eInO (c : Nat) (ng : Bool) (cf : List Val → Hea → Res Val) (f1 f2 : En → Hea → Res Val) : En → Hea → Res Val := fun e h => (f1 e h).bind fun x h1 => (f2 e h1).bind fun y h2 => match insOf h2 y with
  | some (c', _) => if c' = c then blR ng (cf [y, x] h2) else .stuck
  | none => .stuck
def eIxO (c : Nat) (cf : List Val → Hea → Res Val) (f1 f2 : En → Hea → Res Val) : En → Hea → Res Val := fun e h => (f1 e h).bind fun x h1 => (f2 e h1).bind fun y h2 => match insOf h2 x with
  | some (c', _) => if c' = c then cf [x, y] h2 else .stuck
  | none => .stuck
def eLenO (c : Nat) (cf : List Val → Hea → Res Val) (f1 : En → Hea → Res Val) : En → Hea → Res Val := fun e h => (f1 e h).bind fun x h1 => match insOf h1 x with
  | some (c', _) => if c' = c then (noX (cf [x] h1)).bind fun z h2 => match z with
    | .int n => if 0 ≤ n ∧ n < 9223372036854775808 then .ok (.int n) h2 else .stuck
    | _ => .stuck
    else .stuck
  | none => .stuck
section
variable {T : Tb} {X : Cx} {W : WX} {f : Addr} {fd : FuncData} {ps : List Str} {k c : Nat} {cf : List Val → Hea → Res Val} {a b : Expr} {f1 f2 : En → Hea → Res Val} {pos p : Pos} {okc : Nat → Bool}
/-- the two operands -/
theorem two_imp {r : L2.St → V → V → Hp → VK → Prop} {k : Val → Val → Hea → Res Val} {σ : L2.St} {H : Hp} {Q : VK} (q : tE (sy T X) W (fun e h => (f1 e h).bind fun x h1 => (f2 e h1).bind fun y h2 => k x y h2) σ H Q)
    (w : ∀ ρ h x y H1 u v, Rel (sy T X) ρ h H1 → Rep (sy T X) ρ H1 x u → Rep (sy T X) ρ H1 y v → Aft (sy T X) ρ H1 (k x y h) Q (WE W σ) → r σ u v H1 Q) : tBO r (tE (sy T X) W f1) (tE (sy T X) W f2) σ H Q := by
  obtain ⟨ρ, e, h, R, E, a⟩ := q
  refine ⟨ρ, e, h, R, E, a.bind.mono fun u H1 ⟨ρ1, x, h1, s1, R1, r1, a1⟩ => ⟨ρ1, e, h1, R1, E.go s1, a1.bind.mono fun v H2 ⟨ρ2, y, h2, s2, R2, r2, a2⟩ => ?_⟩⟩
  exact w ρ2 h2 x y H2 u v R2 (r1.go s2) r2 a2
theorem cmpO_imp (hO : ∀ c', okc c' = true → OwnC X.K (T.ca c') ∧ PySem.W.notFirst X.K (T.ca c) (.ref (T.ca c')) = true) {σ : L2.St} {H : Hp} {Q : VK} (q : tE (sy T X) W (eCmpO c okc cf f1 f2) σ H Q) : tBO (rCmpO X.K (T.ca c) (spEv (sy T X) cf) (WE W)) (tE (sy T X) W f1) (tE (sy T X) W f2) σ H Q := two_imp (k := fun x y h2 => match insOf h2 x, tyY h2 y with
  | some (c', _), some t => if c' = c ∧ okTY okc t = true then cf [x, y] h2 else .stuck
  | _, _ => .stuck) q fun ρ h x y H1 u v R r1 r2 a => by
    split at a
    · rename_i c' fs t hx ht
      split at a
      · rename_i hc
        obtain ⟨rfl, hc⟩ := hc
        obtain ⟨p, dx, ps, rfl, hi, _⟩ := ins_of R r1 hx
        refine ⟨p, dx, ps, t.v (sy T X), rfl, hi, tyY_ok R r2 ht (fun c'' z => by subst z; exact (hO _ hc).1), ?_, ρ, h, _, R, .cons r1 (.cons r2 .nil), a⟩
        cases t with
        | bt kk => exact notFirst_bt kk
        | cl c'' => exact (hO _ hc).2
      · exact a.elim
    · exact a.elim
theorem se_cmpO {op : CmpOp} (hop : ∀ a b, compareOp op a b = richCompare op a b) (D : Dun X.K (T.ca c) (cmpInfo op).2.1 f) (hO : ∀ c', okc c' = true → OwnC X.K (T.ca c') ∧ PySem.W.notFirst X.K (T.ca c) (.ref (T.ca c')) = true) (F : FnOk X.prog X.w X.K X.mg X.base (L2.CX X.prog X.w) k f fd ps (spEv (sy T X) cf)) (hr : Room k X.A) (hb : Binds X.K fd ps []) (tk : Takes X W)
    (h1 : SE T X W a f1) (h2 : SE T X W b f2) (hm : behindInMarks op b = false) : SE T X W (.Compare a [op] [b] pos) (eCmpO c okc cf f1 f2) :=
  (pe_BO (os_cmp (E := WE W) hop D F hr hb (fun σ => passAt tk σ)) h1 h2 hm).imp fun σ H Q q => cmpO_imp hO q
theorem st_cmpO {op : CmpOp} (hop : ∀ a b, compareOp op a b = richCompare op a b) (D : Dun X.K (T.ca c) (cmpInfo op).2.1 f) (hO : ∀ c', okc c' = true → OwnC X.K (T.ca c') ∧ PySem.W.notFirst X.K (T.ca c) (.ref (T.ca c')) = true) (F : FnOk X.prog X.w X.K X.mg X.base (L2.CX X.prog X.w) k f fd ps (spEv (sy T X) cf)) (hr : Room k X.A) (hb : Binds X.K fd ps []) (tk : Takes X W)
    (h1 : SE T X W a f1) (h2 : SE T X W b f2) (hm : behindInMarks op b = false) : ST T X W (.Compare a [op] [b] pos) (eCmpO c okc cf f1 f2) :=
  (pt_BO (os_cmp (E := WE W) hop D F hr hb (fun σ => passAt tk σ)) h1 h2 hm).imp fun σ H Q q => cmpO_imp hO q
theorem neO_imp (hO : ∀ c', okc c' = true → OwnC X.K (T.ca c') ∧ PySem.W.notFirst X.K (T.ca c) (.ref (T.ca c')) = true) {σ : L2.St} {H : Hp} {Q : VK} (q : tE (sy T X) W (eNeO c okc cf f1 f2) σ H Q) : tBO (rNeO X.K (T.ca c) (spEv (sy T X) cf) (WE W)) (tE (sy T X) W f1) (tE (sy T X) W f2) σ H Q := two_imp (k := fun x y h2 => match insOf h2 x, tyY h2 y with
  | some (c', _), some t => if c' = c ∧ okTY okc t = true then notR (cf [x, y] h2) else .stuck
  | _, _ => .stuck) q fun ρ h x y H1 u v R r1 r2 a => by
    split at a
    · rename_i c' fs t hx ht
      split at a
      · rename_i hc
        obtain ⟨rfl, hc⟩ := hc
        obtain ⟨p, dx, ps, rfl, hi, _⟩ := ins_of R r1 hx
        refine ⟨p, dx, ps, t.v (sy T X), rfl, hi, tyY_ok R r2 ht (fun c'' z => by subst z; exact (hO _ hc).1), ?_, ρ, h, _, R, .cons r1 (.cons r2 .nil), ?_⟩
        · cases t with
          | bt kk => exact notFirst_bt kk
          | cl c'' => exact (hO _ hc).2
        · unfold notR at a
          refine a.bind.mono fun z H2 ⟨ρ2, d, h2, s2, R2, r3, a2⟩ => ?_
          split at a2
          · obtain rfl := r3.bl_
            exact ⟨_, rfl, a2.same R2 (.bl _)⟩
          · exact a2.elim
      · exact a.elim
    · exact a.elim
theorem se_neO (D : Dun X.K (T.ca c) "__eq__" f) (hne : PySem.W.findIn X.K (.ref (T.ca c)) "__ne__" = some (some (.builtin "object.__ne__"))) (hmro : PySem.W.mroIn X.K (T.ca c) (.type "object") = some true) (hO : ∀ c', okc c' = true → OwnC X.K (T.ca c') ∧ PySem.W.notFirst X.K (T.ca c) (.ref (T.ca c')) = true) (F : FnOk X.prog X.w X.K X.mg X.base (L2.CX X.prog X.w) k f fd ps (spEv (sy T X) cf)) (hr : Room (k + 1) X.A) (hb : Binds X.K fd ps []) (tk : Takes X W)
    (h1 : SE T X W a f1) (h2 : SE T X W b f2) (hm : behindInMarks .NotEq b = false) : SE T X W (.Compare a [.NotEq] [b] pos) (eNeO c okc cf f1 f2) :=
  (pe_BO (os_neO (E := WE W) D hne hmro F hr hb (fun σ => passAt tk σ)) h1 h2 hm).imp fun σ H Q q => neO_imp hO q
theorem st_neO (D : Dun X.K (T.ca c) "__eq__" f) (hne : PySem.W.findIn X.K (.ref (T.ca c)) "__ne__" = some (some (.builtin "object.__ne__"))) (hmro : PySem.W.mroIn X.K (T.ca c) (.type "object") = some true) (hO : ∀ c', okc c' = true → OwnC X.K (T.ca c') ∧ PySem.W.notFirst X.K (T.ca c) (.ref (T.ca c')) = true) (F : FnOk X.prog X.w X.K X.mg X.base (L2.CX X.prog X.w) k f fd ps (spEv (sy T X) cf)) (hr : Room (k + 1) X.A) (hb : Binds X.K fd ps []) (tk : Takes X W)
    (h1 : SE T X W a f1) (h2 : SE T X W b f2) (hm : behindInMarks .NotEq b = false) : ST T X W (.Compare a [.NotEq] [b] pos) (eNeO c okc cf f1 f2) :=
  (pt_BO (os_neO (E := WE W) D hne hmro F hr hb (fun σ => passAt tk σ)) h1 h2 hm).imp fun σ H Q q => neO_imp hO q
theorem blR_imp {ρ : Own} {H : Hp} {ng : Bool} {r : Res Val} {Q : VK} {W : XK} {S : Sy} (a : Aft S ρ H (blR ng r) Q W) : Aft S ρ H r (fun z H' => ∃ c, z = .bl c ∧ Q (.bl (if ng = true then !c else c)) H') W := by
  unfold blR at a
  refine a.bind.mono fun z H2 ⟨ρ2, d, h2, s2, R2, r3, a2⟩ => ?_
  split at a2
  · obtain rfl := r3.bl_
    exact ⟨_, rfl, a2.same R2 (.bl _)⟩
  · exact a2.elim
theorem inO_imp  {σ : L2.St} {H : Hp} {Q : VK} (q : tE (sy T X) W (eInO c false cf f1 f2) σ H Q) : tBO (rInO (T.ca c) false (spEv (sy T X) cf) (WE W)) (tE (sy T X) W f1) (tE (sy T X) W f2) σ H Q := two_imp (k := fun x y h2 => match insOf h2 y with
  | some (c', _) => if c' = c then blR false (cf [y, x] h2) else .stuck
  | none => .stuck) q fun ρ h x y H1 u v R r1 r2 a => by
    split at a
    · rename_i c' fs hx
      split at a
      · rename_i hc
        subst hc
        obtain ⟨p, dx, ps, rfl, hi, _⟩ := ins_of R r2 hx
        exact ⟨p, dx, ps, rfl, hi, ρ, h, _, R, .cons r2 (.cons r1 .nil), blR_imp a⟩
      · exact a.elim
    · exact a.elim
theorem se_inO (D : Dun X.K (T.ca c) "__contains__" f) (F : FnOk X.prog X.w X.K X.mg X.base (L2.CX X.prog X.w) k f fd ps (spEv (sy T X) cf)) (hr : Room k X.A) (hb : Binds X.K fd ps []) (tk : Takes X W)
    (h1 : SE T X W a f1) (h2 : SE T X W b f2) (hm : behindInMarks .In b = false) : SE T X W (.Compare a [.In] [b] pos) (eInO c false cf f1 f2) :=
  (pe_BO (os_inO (E := WE W) D F hr hb (fun σ => passAt tk σ)) h1 h2 hm).imp fun σ H Q q => inO_imp  q
theorem st_inO (D : Dun X.K (T.ca c) "__contains__" f) (F : FnOk X.prog X.w X.K X.mg X.base (L2.CX X.prog X.w) k f fd ps (spEv (sy T X) cf)) (hr : Room k X.A) (hb : Binds X.K fd ps []) (tk : Takes X W)
    (h1 : SE T X W a f1) (h2 : SE T X W b f2) (hm : behindInMarks .In b = false) : ST T X W (.Compare a [.In] [b] pos) (eInO c false cf f1 f2) :=
  (pt_BO (os_inO (E := WE W) D F hr hb (fun σ => passAt tk σ)) h1 h2 hm).imp fun σ H Q q => inO_imp  q
theorem notInO_imp  {σ : L2.St} {H : Hp} {Q : VK} (q : tE (sy T X) W (eInO c true cf f1 f2) σ H Q) : tBO (rInO (T.ca c) true (spEv (sy T X) cf) (WE W)) (tE (sy T X) W f1) (tE (sy T X) W f2) σ H Q := two_imp (k := fun x y h2 => match insOf h2 y with
  | some (c', _) => if c' = c then blR true (cf [y, x] h2) else .stuck
  | none => .stuck) q fun ρ h x y H1 u v R r1 r2 a => by
    split at a
    · rename_i c' fs hx
      split at a
      · rename_i hc
        subst hc
        obtain ⟨p, dx, ps, rfl, hi, _⟩ := ins_of R r2 hx
        exact ⟨p, dx, ps, rfl, hi, ρ, h, _, R, .cons r2 (.cons r1 .nil), blR_imp a⟩
      · exact a.elim
    · exact a.elim
theorem se_notInO (D : Dun X.K (T.ca c) "__contains__" f) (F : FnOk X.prog X.w X.K X.mg X.base (L2.CX X.prog X.w) k f fd ps (spEv (sy T X) cf)) (hr : Room k X.A) (hb : Binds X.K fd ps []) (tk : Takes X W)
    (h1 : SE T X W a f1) (h2 : SE T X W b f2) (hm : behindInMarks .NotIn b = false) : SE T X W (.Compare a [.NotIn] [b] pos) (eInO c true cf f1 f2) :=
  (pe_BO (os_notInO (E := WE W) D F hr hb (fun σ => passAt tk σ)) h1 h2 hm).imp fun σ H Q q => notInO_imp  q
theorem st_notInO (D : Dun X.K (T.ca c) "__contains__" f) (F : FnOk X.prog X.w X.K X.mg X.base (L2.CX X.prog X.w) k f fd ps (spEv (sy T X) cf)) (hr : Room k X.A) (hb : Binds X.K fd ps []) (tk : Takes X W)
    (h1 : SE T X W a f1) (h2 : SE T X W b f2) (hm : behindInMarks .NotIn b = false) : ST T X W (.Compare a [.NotIn] [b] pos) (eInO c true cf f1 f2) :=
  (pt_BO (os_notInO (E := WE W) D F hr hb (fun σ => passAt tk σ)) h1 h2 hm).imp fun σ H Q q => notInO_imp  q
theorem se_ixO (D : Dun X.K (T.ca c) "__getitem__" f) (F : FnOk X.prog X.w X.K X.mg X.base (L2.CX X.prog X.w) k f fd ps (spEv (sy T X) cf)) (hr : Room (k + 1) X.A) (hb : Binds X.K fd ps []) (tk : Takes X W)
    (h1 : SE T X W a f1) (h2 : SE T X W b f2) (hsl : ∀ v i, subscripted b true v i = runValue (.builtin "lifetime.subscript" ⟨[v, i], []⟩) := by intro _ _; with_unfolding_all rfl) : SE T X W (.Subscript a b pos) (eIxO c cf f1 f2) :=
  (pe_ixO (E := WE W) D F hr hb (fun σ => passAt tk σ) h1 h2 hsl).imp fun σ H Q q => two_imp (k := fun x y h2 => match insOf h2 x with
  | some (c', _) => if c' = c then cf [x, y] h2 else .stuck
  | none => .stuck) q fun ρ h x y H1 u v R r1 r2 a => by
    split at a
    · rename_i c' fs hx
      split at a
      · rename_i hc
        subst hc
        obtain ⟨p, dx, ps, rfl, hi, _⟩ := ins_of R r1 hx
        exact ⟨p, dx, ps, rfl, hi, ρ, h, _, R, .cons r1 (.cons r2 .nil), a⟩
      · exact a.elim
    · exact a.elim
theorem Aft.noX' {S : Sy} {ρ : Own} {H : Hp} {r : Res Val} {k : Val → Hea → Res Val} {Q : VK} {W : XK} (a : Aft S ρ H ((Lad.noX r).bind k) Q W) : ∃ d h1, r = .ok d h1 ∧ Aft S ρ H (k d h1) Q W := by
  cases r with
  | ok d h => exact ⟨d, h, rfl, a⟩
  | exc c d h => exact a.elim
  | stuck => exact a.elim
theorem se_lenO (D : Dun X.K (T.ca c) "__len__" f) (F : FnOk X.prog X.w X.K X.mg X.base (L2.CX X.prog X.w) k f fd ps (spEv (sy T X) cf)) (hr : Room (k + 1) X.A) (hb : Binds X.K fd ps []) (hm : X.mg "len" = none) (h1 : SE T X W a f1) (hg : Gl X "len" := by rfl)
    (he : starEach [a] X.env = (false, eval a X.env) :: starEach [] X.env := by rfl) : SE T X W (.Call (.Name "len" p) [a] [] pos) (eLenO c cf f1) :=
  (pe_callB (call_lenO D F hr hb) hg hm (by decide +kernel) (pa_cons h1 pa_nil he) (by decide) (by decide) he rfl).imp fun σ H Q q => by
    obtain ⟨ρ, e, h, R, E, a⟩ := q
    unfold eLenO at a
    refine ⟨ρ, e, h, R, E, a.bind.mono fun v H1 ⟨ρ1, d, h1, s, R1, r1, a1⟩ => ?_⟩
    split at a1
    · rename_i c' fs hx
      split at a1
      · rename_i hc
        subst hc
        obtain ⟨p, dx, ps, rfl, hi, _⟩ := ins_of R1 r1 hx
        obtain ⟨z, h2, ez, a2⟩ := a1.noX'
        refine ⟨p, dx, ps, rfl, hi, ρ1, h1, _, R1, .cons r1 .nil, ?_⟩
        rw [ez]
        refine fun ρ2 u H2 s2 R2 r2 => ?_
        split at a2
        · split at a2
          · rename_i n hn
            obtain rfl := r2.int_
            exact ⟨n, rfl, hn.1, by have := hn.2; omega, a2 ρ2 _ H2 s2 R2 r2⟩
          · exact a2.elim
        · exact a2.elim
      · exact a1.elim
    · exact a1.elim
end
end Lad
end
/-! ## LadDic -/
section
set_option maxRecDepth 100000
set_option maxHeartbeats 2000000
namespace Lad
open PySem PySem.Spec PyProof.Rows L2
/-! ### {} -/
def eD0 : En → Hea → Res Val := fun _ h => .ok (.dic false [] []) h
/-- {} to be changed: keys ints and texts; keys tuples -/
def eD0K : En → Hea → Res Val := fun _ h => .ok (.ref h.length) (h ++ [.dcK []])
def eD0T : En → Hea → Res Val := fun _ h => .ok (.ref h.length) (h ++ [.dcT []])
section
variable {T : Tb} {X : Cx} {W : WX} {pos : Pos}
theorem se_d0 : SE T X W (.Dict [] [] pos) eD0 := pe_dnewK.imp fun σ H Q q => by
  obtain ⟨ρ, e, h, R, E, a⟩ := q
  intro p n
  exact a ρ (.ref p) _ (.side n) (R.side n) (.dicK (R.fz n) upd_same rfl rfl .nil)
theorem se_d0K : SE T X W (.Dict [] [] pos) eD0K := pe_dnewK.imp fun σ H Q q => by
  obtain ⟨ρ, e, h, R, E, a⟩ := q
  intro p n
  exact a (ρ.add p) (.ref p) _ (.new n) (R.new n (.dcK upd_same .nil)) (.ref (by rw [R.len]; exact add_at))
theorem se_d0T : SE T X W (.Dict [] [] pos) eD0T := pe_dnewT.imp fun σ H Q q => by
  obtain ⟨ρ, e, h, R, E, a⟩ := q
  intro p n
  exact a (ρ.add p) (.ref p) _ (.new n) (R.new n (.dcT upd_same .nil)) (.ref (by rw [R.len]; exact add_at))
end
/-! ### keys -/
def toKey : Val → Option Key
  | .int i => some (.inl i)
  | .str z => some (.inr z)
  | _ => none
theorem toKey_ok {d : Val} {k : Key} (e : toKey d = some k) : d = kvK k := by
  cases d <;> cases e <;> rfl
theorem kvK_rep {S : Sy} {ρ : Own} {H : Hp} {k : Key} {v : V} (r : Rep S ρ H (kvK k) v) : v = kV k := by
  cases k with
  | inl i => exact r.int_
  | inr z => exact r.str_
def keyEq : Val → Val → Bool
  | .int a, .int b => decide (a = b)
  | .str a, .str b => decide (a = b)
  | _, _ => false
theorem keyEq_kv (a b : Key) : keyEq (kvK a) (kvK b) = decide (a = b) := by
  cases a <;> cases b <;> simp [keyEq, keyVal]
def lkK : List (Val × Val) → Val → Option Val
  | [], _ => none
  | (k, d) :: r, x => if keyEq k x = true then some d else lkK r x
def hasK : List (Val × Val) → Val → Bool
  | [], _ => false
  | (k, _) :: r, x => keyEq k x || hasK r x
def putKv (x d : Val) (kvs : List (Val × Val)) : List (Val × Val) := if hasK kvs x = true then kvs.map (fun p => if keyEq p.1 x = true then (p.1, d) else p) else kvs ++ [(x, d)]
section
variable {S : Sy} {ρ : Own} {H : Hp}
theorem KvR.lk : ∀ {kvs : List (Val × Val)} {ps : List (Key × V)} {k : Key}, KvR S ρ H kvK kvs ps → match lkK kvs (kvK k) with
    | some d => ∃ v, valV ps k = some v ∧ Rep S ρ H d v
    | none => valV ps k = none
  | _, _, k, .nil => rfl
  | _, _, k, .cons (k := k') (d := d) (v := v) (ds := ds) (vs := vs) r t => by
    unfold lkK
    rw [keyEq_kv]
    by_cases h : k' = k
    · rw [if_pos (decide_eq_true h)]
      exact ⟨v, valV_pos h, r⟩
    · rw [if_neg (by simpa using h)]
      have ih := t.lk (k := k)
      revert ih
      cases lkK ds (kvK k) with
      | none => exact fun ih => (valV_neg h).trans ih
      | some d' => exact fun ⟨w, e1, e2⟩ => ⟨w, (valV_neg h).trans e1, e2⟩
theorem KvR.has : ∀ {kvs : List (Val × Val)} {ps : List (Key × V)} {k : Key}, KvR S ρ H kvK kvs ps → hasK kvs (kvK k) = ps.any fun kv => decide (kv.1 = k)
  | _, _, k, .nil => rfl
  | _, _, k, .cons r t => by
    unfold hasK
    rw [keyEq_kv, t.has, List.any_cons]
theorem KvR.app : ∀ {kvs : List (Val × Val)} {ps : List (Key × V)} {k : Key} {d : Val} {v : V}, KvR S ρ H kvK kvs ps → Rep S ρ H d v → KvR S ρ H kvK (kvs ++ [(kvK k, d)]) (ps ++ [(k, v)])
  | _, _, k, d, v, .nil, q => .cons q .nil
  | _, _, k, d, v, .cons r t, q => .cons r (t.app q)
theorem KvR.rep : ∀ {kvs : List (Val × Val)} {ps : List (Key × V)} {k : Key} {d : Val} {v : V}, KvR S ρ H kvK kvs ps → Rep S ρ H d v → KvR S ρ H kvK (kvs.map (fun p => if keyEq p.1 (kvK k) = true then (p.1, d) else p)) (ps.map fun kv => if kv.1 = k then (kv.1, v) else kv)
  | _, _, k, d, v, .nil, q => .nil
  | _, _, k, d, v, .cons (k := k') r t, q => by
    rw [List.map_cons, List.map_cons]
    simp only [keyEq_kv]
    by_cases h : k' = k
    · rw [if_pos (decide_eq_true h), if_pos h]
      have := t.rep (k := k) q
      exact .cons q (by simpa only [keyEq_kv] using this)
    · rw [if_neg (by simpa using h), if_neg h]
      have := t.rep (k := k) q
      exact .cons r (by simpa only [keyEq_kv] using this)
theorem KvR.put {kvs : List (Val × Val)} {ps : List (Key × V)} {k : Key} {d : Val} {v : V} (t : KvR S ρ H kvK kvs ps) (q : Rep S ρ H d v) : KvR S ρ H kvK (putKv (kvK k) d kvs) (putK ps k v) := by
  unfold putKv putK
  rw [t.has]
  split
  · exact t.rep q
  · exact t.app q
theorem KvR.length {κ : Type} {kd : κ → Val} : ∀ {kvs : List (Val × Val)} {ps : List (κ × V)}, KvR S ρ H kd kvs ps → kvs.length = ps.length
  | _, _, .nil => rfl
  | _, _, .cons _ t => by simp [t.length]
theorem KvR.zip {κ : Type} {kd : κ → Val} : ∀ {ks ds : List Val} {ps : List (κ × V)}, ks = ps.map (fun p => kd p.1) → Reps S ρ H ds (ps.map (·.2)) → KvR S ρ H kd (ks.zip ds) ps
  | _, _, [], e, r => by subst e; exact .nil
  | _, _, p :: ps, e, r => by
    subst e
    rw [List.map_cons] at r
    cases r with
    | cons q t => exact .cons q (KvR.zip rfl t)
end
/-- a dict by ints and texts, to be read -/
def dctOf (h : Hea) : Val → Option (List (Val × Val))
  | .dic false ks vs => some (ks.zip vs)
  | .ref i => match h[i]? with
    | some (.dcK kvs) => some kvs
    | _ => none
  | _ => none
theorem dct_of {S : Sy} {ρ : Own} {H : Hp} {h : Hea} {d : Val} {v : V} {kvs : List (Val × Val)} (R : Rel S ρ h H) (r : Rep S ρ H d v) (e : dctOf h d = some kvs) : ∃ a ps, v = .ref a ∧ H a = some (.dK ps) ∧ KvR S ρ H kvK kvs ps := by
  unfold dctOf at e
  split at e
  · cases e
    cases r with
    | dicK f h1 e1 e2 r => subst e2; exact ⟨_, _, rfl, h1, KvR.zip e1 r⟩
  · obtain ⟨p, rfl, ep⟩ := r.ref_
    split at e
    · rename_i hx
      cases e
      have o := R.ob _ _ _ hx ep
      cases o with
      | dcK h1 h2 => exact ⟨p, _, rfl, h1, h2⟩
    · cases e
  · cases e
/-! ### d[k] -/
def oDGet (h : Hea) (a b : Val) : Option Val := match dctOf h a, toKey b with
  | some kvs, some _ => lkK kvs b
  | _, _ => none
section
variable {T : Tb} {X : Cx} {W : WX} {a b : Expr} {f1 f2 f3 : En → Hea → Res Val} {pos : Pos}
theorem u1 {k : Nat} {A : Around} (hr : Room k A) : A.units + 1 < cLine := by have := hr.un; omega
theorem dget_of {ρ : Own} {H : Hp} {h : Hea} {d1 d2 : Val} {x y : V} {kvs : List (Val × Val)} {k : Key} (R : Rel (sy T X) ρ h H) (r1 : Rep (sy T X) ρ H d1 x) (r2 : Rep (sy T X) ρ H d2 y) (e1 : dctOf h d1 = some kvs) (e2 : toKey d2 = some k) :
    ∃ p o, x = .ref p ∧ DGet H p y o ∧ (match lkK kvs d2 with
      | some d => ∃ v, o = some v ∧ Rep (sy T X) ρ H d v
      | none => o = none) := by
  obtain ⟨p, ps, rfl, hp, kv⟩ := dct_of R r1 e1
  obtain rfl := toKey_ok e2
  obtain rfl := kvK_rep r2
  refine ⟨p, valV ps k, rfl, DGet.k hp, ?_⟩
  exact kv.lk (k := k)
theorem dget_imp {σ : L2.St} {H : Hp} {Q : VK} (q : tE (sy T X) W (eBin oDGet f1 f2) σ H Q) : tDGet (tE (sy T X) W f1) (tE (sy T X) W f2) σ H Q := by
  obtain ⟨ρ, e, h, R, E, a⟩ := q
  refine ⟨ρ, e, h, R, E, a.bind.mono fun u H1 ⟨ρ1, x, h1, s1, R1, r1, a1⟩ => ⟨ρ1, e, h1, R1, E.go s1, a1.bind.mono fun v H2 ⟨ρ2, y, h2, s2, R2, r2, a2⟩ => ?_⟩⟩
  unfold oDGet at a2
  split at a2
  · rename_i kvs k e1 e2
    obtain ⟨p, o, rfl, g, ho⟩ := dget_of R2 (r1.go s2) r2 e1 e2
    revert ho a2
    cases lkK kvs y with
    | none => intro a2; exact a2.elim
    | some d =>
      rintro a2 ⟨w, rfl, rw⟩
      exact ⟨p, w, rfl, g, Aft.same (d := d) a2 R2 rw⟩
  · exact a2.elim
theorem se_dget (hu : X.A.units + 1 < cLine) (ha : SE T X W a f1) (hb : SE T X W b f2) (hs : NoSl b := by intro _ _; rfl) : SE T X W (.Subscript a b pos) (eBin oDGet f1 f2) := (pe_dget hu ha hb hs).imp fun σ H Q q => dget_imp q
/-- d.get(k, x) -/
def eDGet2 (f1 f2 f3 : En → Hea → Res Val) : En → Hea → Res Val := fun e h => (f1 e h).bind fun d h1 => if (dctOf h1 d).isSome = true then (f2 e h1).bind fun k h2 => (f3 e h2).bind fun z h3 => match dctOf h3 d, toKey k with
  | some kvs, some _ => .ok ((lkK kvs k).getD z) h3
  | _, _ => .stuck
  else .stuck
theorem se_dget2 {c : Expr} {apos cpos : Pos} (hu : X.A.units + 1 < cLine) (ha : SE T X W a f1) (hb : SE T X W b f2) (hc : SE T X W c f3) (m : M2 X a "get" apos b c cpos) : SE T X W (.Call (.Attribute a "get" apos) [b, c] [] cpos) (eDGet2 f1 f2 f3) :=
  (pe_dget2 hu ha hb hc m).imp fun σ H Q q => by
    obtain ⟨ρ, e, h, R, E, a⟩ := q
    unfold eDGet2 at a
    refine ⟨ρ, e, h, R, E, a.bind.mono fun u H1 ⟨ρ1, x, h1, s1, R1, r1, a1⟩ => ?_⟩
    split at a1
    · rename_i hs
      obtain ⟨kv0, e0⟩ := Option.isSome_iff_exists.mp hs
      obtain ⟨p, ps, rfl, hp, _⟩ := dct_of R1 r1 e0
      refine ⟨p, rfl, .inl ⟨ps, .inl hp⟩, ρ1, e, h1, R1, E.go s1, a1.bind.mono fun v H2 ⟨ρ2, y, h2, s2, R2, r2, a2⟩ => ⟨ρ2, e, h2, R2, (E.go s1).go s2, a2.bind.mono fun z H3 ⟨ρ3, zd, h3, s3, R3, r3, a3⟩ => ?_⟩⟩
      split at a3
      · rename_i kvs k e1 e2
        obtain ⟨p', o, ep, g, ho⟩ := dget_of R3 ((r1.go s2).go s3) (r2.go s3) e1 e2
        cases ep
        refine ⟨o, g, ?_⟩
        revert ho a3
        cases lkK kvs y with
        | none =>
          intro a3 ho
          subst ho
          exact Aft.same (d := zd) a3 R3 r3
        | some d =>
          rintro a3 ⟨w, rfl, rw⟩
          exact Aft.same (d := d) a3 R3 rw
      · exact a3.elim
    · exact a1.elim
/-! ### k in d -/
def oDIn (h : Hea) (a b : Val) : Option Val := match dctOf h b, toKey a with
  | some kvs, some _ => some (.bl (lkK kvs a).isSome)
  | _, _ => none
def oDNotIn (h : Hea) (a b : Val) : Option Val := match dctOf h b, toKey a with
  | some kvs, some _ => some (.bl (!(lkK kvs a).isSome))
  | _, _ => none
theorem o_din (hu : X.A.units + 1 < cLine) : OpR X (compareOp .In) (rB (sy T X) oDIn) := by
  intro pins s σ H x y v u Q I rx ry q
  obtain ⟨ρ, h, d1, d2, R, r1, r2, a⟩ := q
  unfold oDIn at a
  split at a
  · rename_i kvs k e1 e2
    obtain ⟨p, o, rfl, g, ho⟩ := dget_of R r2 r1 e1 e2
    obtain rfl : u = Value.ref p := ry
    have eo : o.isSome = (lkK kvs d1).isSome := by
      revert ho
      cases lkK kvs d1 with
      | none => rintro rfl; rfl
      | some d => rintro ⟨w, rfl, _⟩; rfl
    refine d_in hu I g rx fun s' I' => ⟨.bl o.isSome, H, I', rfl, ?_⟩
    rw [eo]
    exact Aft.same (d := .bl _) a R (.bl _)
  · exact a.elim
theorem o_dnotIn (hu : X.A.units + 1 < cLine) : OpR X (compareOp .NotIn) (rB (sy T X) oDNotIn) := by
  intro pins s σ H x y v u Q I rx ry q
  obtain ⟨ρ, h, d1, d2, R, r1, r2, a⟩ := q
  unfold oDNotIn at a
  split at a
  · rename_i kvs k e1 e2
    obtain ⟨p, o, rfl, g, ho⟩ := dget_of R r2 r1 e1 e2
    obtain rfl : u = Value.ref p := ry
    have eo : o.isSome = (lkK kvs d1).isSome := by
      revert ho
      cases lkK kvs d1 with
      | none => rintro rfl; rfl
      | some d => rintro ⟨w, rfl, _⟩; rfl
    refine d_notIn hu I g rx fun s' I' => ⟨.bl (!o.isSome), H, I', rfl, ?_⟩
    rw [eo]
    exact Aft.same (d := .bl _) a R (.bl _)
  · exact a.elim
/-! ### d[k] = v -/
def setD (h : Hea) (o k v : Val) : Option Hea := match o, toKey k with
  | .ref i, some _ => (match h[i]? with
    | some (.dcK kvs) => if kvs.length < 16777216 then some (h.set i (.dcK (putKv k v kvs))) else none
    | _ => none)
  | _, _ => none
theorem setD_inv {h h' : Hea} {o k v : Val} (e : setD h o k v = some h') : ∃ i key kvs, o = .ref i ∧ toKey k = some key ∧ h[i]? = some (.dcK kvs) ∧ kvs.length < 16777216 ∧ h' = h.set i (.dcK (putKv k v kvs)) := by
  unfold setD at e
  cases o with
  | ref i =>
    cases hk : toKey k with
    | none => rw [hk] at e; cases e
    | some key =>
      rw [hk] at e
      cases hx : h[i]? with
      | none => simp only [hx] at e; cases e
      | some ob =>
        simp only [hx] at e
        cases ob with
        | dcK kvs =>
          by_cases hl : kvs.length < 16777216
          · simp only [hl, if_true] at e
            cases e
            exact ⟨i, key, kvs, rfl, rfl, hx, hl, rfl⟩
          · simp only [hl, if_false] at e
            cases e
        | _ => cases e
  | _ => cases e
def sDPut (fv fo fi : En → Hea → Res Val) : En → Hea → SRes := fun e h => ofR ((fv e h).bind fun v h1 => (fo e h1).bind fun o h2 => (fi e h2).bind fun i h3 => match setD h3 o i v with
  | some h4 => .ok Val.non h4
  | none => .stuck) e fun _ h4 => .nx e h4
theorem st_dput {c : Expr} {pos' : Pos} (hu : X.A.units + 1 < cLine) (hv : SE T X W c f3) (ho : SE T X W a f1) (hi : SE T X W b f2) (hs : swapsWith c (some (.Subscript a b pos')) pos.line X.env = pure false := by rfl) : SSt T X W (.Assign [.Subscript a b pos'] c pos) (Lad.sDPut f3 f1 f2) :=
  (ps_dput hu ho hi hv hs).imp fun D σ H q => by
    obtain ⟨ρ, e, h, R, E, a⟩ := q
    unfold Lad.sDPut at a
    have a := (AftS.ofR a E).bind
    refine ⟨ρ, e, h, R, E, a.mono fun v H1 ⟨ρ1, d, h1, s1, R1, r1, a1⟩ => ⟨ρ1, e, h1, R1, E.go s1, a1.bind.mono fun x H2 ⟨ρ2, od, h2, s2, R2, r2, a2⟩ => ⟨ρ2, e, h2, R2, (E.go s1).go s2, a2.bind.mono fun y H3 ⟨ρ3, kd, h3, s3, R3, r3, a3⟩ => ?_⟩⟩⟩
    split at a3
    · rename_i h4 hset
      obtain ⟨i, k, kvs, rfl, ek, hx, hl, rfl⟩ := setD_inv hset
      obtain ⟨p, rfl, ep⟩ := (r2.go s3).ref_
      have ob := R3.ob _ _ _ hx ep
      cases ob with
      | @dcK _ ps _ hp kv =>
        obtain rfl := toKey_ok ek
        obtain rfl := kvK_rep r3
        have m : Mv (sy T X) ρ3 H3 ρ3 (upd H3 p (.dK (putK ps k v))) := .put ep hp True.intro
        have R4 := R3.put (o := .dK (putK ps k v)) (ob := .dcK (putKv (kvK k) d kvs)) ep hp True.intro (.dcK upd_same ((kv.put ((r1.go s2).go s3)).mono m))
        have g4 : Go (sy T X) ρ3 H3 ρ3 (upd H3 p (.dK (putK ps k v))) := .put ep hp True.intro
        refine ⟨p, _, rfl, DPut.k hp (by rw [sizeLine_eq, ← kv.length]; exact hl), ?_⟩
        obtain ⟨ρ5, d5, h5, s5, R5, r5, E5, a5⟩ := a3 ρ3 .non _ g4 R4 .non
        exact a5 ρ5 σ _ .rfl R5 E5
    · exact a3.elim
end
end Lad
end
/-! ## LadW1 -/
section
set_option maxRecDepth 100000
set_option maxHeartbeats 2000000
namespace Lad
open PySem L2
/-! ### a, b, c = x, y, z -/
section
variable {T : Tb} {X : Cx} {W : WX} {a b c : Expr} {pos : Pos}
theorem st_par3 {i j l : Nat} {x y z : Str} {g : En → Hea → Res (List Val)} {px py pz pt : Pos} {kt k2 pt2} (hc : X.calm = true) (hN : X.N.Nodup) (hi : X.N[i]? = some x) (hj : X.N[j]? = some y) (hl : X.N[l]? = some z) (hij : i ≠ j) (hil : i ≠ l) (hjl : j ≠ l)
    (hx : X.env.scope.names.lookup x = some .local) (hy : X.env.scope.names.lookup y = some .local) (hz : X.env.scope.names.lookup z = some .local) (ha : SA T X W [a, b, c] g)
    (hw : swappedStores [.Tuple [.Name x px, .Name y py, .Name z pz] kt pt] (.Tuple [a, b, c] k2 pt2) X.env = pure (some [x, y, z]))
    (hs : swapsWithSole [.Tuple [.Name x px, .Name y py, .Name z pz] kt pt] (.Tuple [a, b, c] k2 pt2) pos.line X.env = pure false := by rfl) :
    SSt T X W (.Assign [.Tuple [.Name x px, .Name y py, .Name z pz] kt pt] (.Tuple [a, b, c] k2 pt2) pos) (sPar [i, j, l] g) := (ps_par3 hc hN hi hj hl hij hil hjl hx hy hz ha hw hs).imp fun D σ H q => by
  obtain ⟨ρ, e, h, R, E, a⟩ := q
  refine ⟨ρ, e, h, R, E, (a.ofA E).mono fun v H1 ⟨ρ1, d, h1, s, R1, r, E1, a1⟩ => ?_⟩
  split at a1
  · rename_i e1 he
    have hl := setAll_len he
    match d, v, r, hl with
    | [d1, d2, d3], [v1, v2, v3], .cons r1 (.cons r2 (.cons r3 .nil)), _ =>
      cases he
      exact ⟨v1, v2, v3, rfl, a1 ρ1 _ H1 .rfl R1 (((E1.set r1 i).set r2 j).set r3 l)⟩
  · exact a1.elim
end
/-! ### xs.index(x): texts -/
def strs? : List Val → Option (List Str)
  | [] => some []
  | .str z :: xs => (strs? xs).map (z :: ·)
  | _ => none
theorem strs_eq : ∀ {xs : List Val} {ns : List Str}, strs? xs = some ns → xs = ns.map Val.str
  | [], ns, e => by cases e; rfl
  | .str i :: xs, ns, e => by
    simp only [strs?] at e
    obtain ⟨ms, q, rfl⟩ := map_some e
    rw [strs_eq q]
    rfl
  | .non :: _, _, e => by cases e
  | .bl _ :: _, _, e => by cases e
  | .int _ :: _, _, e => by cases e
  | .tup _ :: _, _, e => by cases e
  | .ref _ :: _, _, e => by cases e
  | .exn _ _ :: _, _, e => by cases e
  | .lst _ :: _, _, e => by cases e
  | .dic _ _ _ :: _, _, e => by cases e
  | .obj _ _ _ :: _, _, e => by cases e
theorem Reps.strs {S : Sy} {ρ : Own} {H : Hp} : ∀ {ns : List Str} {vs : List V}, Reps S ρ H (ns.map Val.str) vs → vs = ns.map V.str
  | [], _, .nil => rfl
  | n :: ns, _, .cons r t => by
    cases r
    rw [Reps.strs t]
    rfl
/-- the first place of z -/
def idxS : List Str → Str → Option Nat
  | [], _ => none
  | y :: ys, z => if y = z then some 0 else (idxS ys z).map (· + 1)
theorem idxS_ok : ∀ {ys : List Str} {z : Str} {j : Nat}, idxS ys z = some j → ys[j]? = some z ∧ ∀ m, m < j → ys[m]? ≠ some z
  | y :: ys, z, j, e => by
    unfold idxS at e
    split at e
    · rename_i h
      cases e
      exact ⟨by rw [h]; rfl, fun m hm => by omega⟩
    · rename_i h
      obtain ⟨i, e1, rfl⟩ := map_some e
      obtain ⟨h1, h2⟩ := idxS_ok e1
      refine ⟨h1, fun m hm => ?_⟩
      cases m with
      | zero => intro q; cases q; exact h rfl
      | succ m => exact h2 m (by omega)
def oIdxL (h : Hea) (a b : Val) : Option Val := match lstOf h a, b with
  | some xs, .str z => (strs? xs).bind fun ys => (idxS ys z).map fun j => .int (j : Nat)
  | _, _ => none
/-- o.m(e) of a list or tuple -/
def eM1 (ty : Hea → Val → Bool) (g : Hea → Val → Val → Option Val) (f1 f2 : En → Hea → Res Val) : En → Hea → Res Val := fun e h => (f1 e h).bind fun x h1 => if ty h1 x = true then (f2 e h1).bind fun y h2 => opt (g h2 x y) h2 else .stuck
def isL (h : Hea) (d : Val) : Bool := (lstOf h d).isSome
def isT (_ : Hea) : Val → Bool
  | .tup _ => true
  | _ => false
section
variable {T : Tb} {X : Cx} {W : WX} {o a : Expr} {f g : En → Hea → Res Val} {apos cpos : Pos}
theorem se_idxL (ho : SE T X W o f) (ha : SE T X W a g)
    (hbase : attributeBase o "index" X.env (eval o X.env) = eval o X.env := by rfl)
    (hfew : ((backTo cpos (starEach (a :: []) X.env)).all (fun x => !x.1) && (backToKw cpos (keywordEach [] X.env)).all (fun x => x.1.isSome)
      && decide ((a :: []).length + ([] : List Keyword).length + (if ([] : List Keyword).isEmpty then 0 else 1) < 30)) = true := by rfl)
    (hline : (apos.endLine == cpos.line) = true := by rfl) (hs : starEach (a :: []) X.env = (false, eval a X.env) :: starEach [] X.env := by rfl) (hplain : (backTo cpos (starEach [] X.env)).any (·.1) = false := by rfl) :
    SE T X W (.Call (.Attribute o "index" apos) [a] [] cpos) (eM1 isL oIdxL f g) :=
  (pe_bm PySem.F.plainAttrs_list PySem.F.slot_list_index PySem.F.type_list_index mt_index ho (pa_cons ha pa_nil hs) hbase hfew hline hs hplain).imp fun σ H Q q => by
    obtain ⟨ρ, e, h, R, E, a⟩ := q
    unfold eM1 at a
    refine ⟨ρ, e, h, R, E, a.bind.mono fun ov H1 ⟨ρ1, od, h1, s, R1, r1, a1⟩ => ?_⟩
    split at a1
    · rename_i ht
      obtain ⟨xs, hx⟩ := Option.isSome_iff_exists.mp ht
      obtain ⟨p, vs, rfl, sq, rr⟩ := R1.lstV r1 hx
      refine ⟨.inl ⟨rfl, vs, sq⟩, ρ1, e, h1, R1, E.go s, a1.bind.mono fun yv H2 ⟨ρ2, yd, h2, s2, R2, r2, a2⟩ => ?_⟩
      unfold oIdxL at a2
      split at a2
      · rename_i xs2 z hx2
        obtain ⟨p2, vs2, ev, sq2, rr2⟩ := R2.lstV (r1.go s2) hx2
        cases ev
        cases hst : strs? xs2 with
        | none => rw [hst] at a2; exact a2.elim
        | some ys =>
          rw [hst] at a2
          simp only [Option.bind_some] at a2
          cases hj : idxS ys z with
          | none => rw [hj] at a2; exact a2.elim
          | some j =>
            rw [hj] at a2
            obtain ⟨h1, h2⟩ := idxS_ok hj
            obtain rfl := strs_eq hst
            obtain rfl := rr2.strs
            obtain rfl := r2.str_
            refine ⟨p, ys.map V.str, .str z, j, .str z, rfl, rfl, sq2, rfl, flat_strs ys, by rw [List.getElem?_map, h1]; rfl, by simp [eqV], fun m z' hm hz => ?_, Aft.same (d := .int _) a2 R2 (.int _)⟩
            rw [List.getElem?_map] at hz
            obtain ⟨w, hw, rfl⟩ := map_some hz
            have : w ≠ z := fun q => h2 m hm (by rw [hw, q])
            simp [eqV, this]
      · exact a2.elim
    · exact a1.elim
/-- C.index(e), C a tuple of texts that the module holds -/
def TupD (K : PySem.W.Frag) (mg : Str → Option Value) (x : Str) : Prop := ∃ a o, mg x = some (.ref a) ∧ K.lookup a = some o ∧ o.cls = .type "tuple" ∧ o.dict = none
def tupDB (x : Str) (K : PySem.W.Frag) : Bool := match PySem.W.nsIn K mainGlobals x with
  | some (some (.ref a)) => (match K.lookup a with
    | some o => decide (o.cls = .type "tuple") && o.dict.isNone
    | none => false)
  | _ => false
theorem tupDB_ok {K : PySem.W.Frag} {h : Heap} {mg : Str → Option Value} {x : Str} (Z : K.In h) (G : h.Ns mainGlobals mg) (c : tupDB x K = true) : TupD K mg x := by
  unfold tupDB at c
  split at c
  · rename_i a e
    split at c
    · rename_i o lk
      obtain ⟨h1, h2⟩ := Bool.and_eq_true_iff.mp c
      exact ⟨a, o, PySem.W.mg_of Z G e, lk, of_decide_eq_true h1, Option.isNone_iff_eq_none.mp h2⟩
    · cases c
  · cases c
def eIdxC (ys : List Str) (g : En → Hea → Res Val) : En → Hea → Res Val := fun e h => (g e h).bind fun y h1 => match y with
  | .str z => opt ((idxS ys z).map fun j => .int (j : Nat)) h1
  | _ => .stuck
theorem se_idxC {x : Str} {ys : List Str} {p : Pos} (c : ConOk X.K X.mg x (.tup (ys.map Val.str))) (t : TupD X.K X.mg x) (ha : SE T X W a g) (hg : Gl X x := by rfl) (hd : (x == ("__debug__" : Str)) = false := by decide)
    (hbase : attributeBase (.Name x p) "index" X.env (eval (.Name x p) X.env) = eval (.Name x p) X.env := by rfl)
    (hfew : ((backTo cpos (starEach (a :: []) X.env)).all (fun x => !x.1) && (backToKw cpos (keywordEach [] X.env)).all (fun x => x.1.isSome)
      && decide ((a :: []).length + ([] : List Keyword).length + (if ([] : List Keyword).isEmpty then 0 else 1) < 30)) = true := by rfl)
    (hline : (apos.endLine == cpos.line) = true := by rfl) (hs : starEach (a :: []) X.env = (false, eval a X.env) :: starEach [] X.env := by rfl) (hplain : (backTo cpos (starEach [] X.env)).any (·.1) = false := by rfl) :
    SE T X W (.Call (.Attribute (.Name x p) "index" apos) [a] [] cpos) (eIdxC ys g) := by
  obtain ⟨b, o, mb, lk, hc, hdn⟩ := t
  obtain ⟨u, m, v, r, q⟩ := c
  rw [mb] at m
  cases m
  have ev : v = .ref b := by
    cases v with
    | ref c => cases (show Value.ref b = Value.ref c from r); rfl
    | non => cases (show Value.ref b = Value.none from r)
    | bl c => cases (show Value.ref b = Value.bool c from r)
    | int c => obtain ⟨_, z⟩ := (show ∃ t, Value.ref b = Value.int c t from r); cases z
    | str c => obtain ⟨_, z⟩ := (show ∃ t, Value.ref b = Value.str c t from r); cases z
    | byt c => obtain ⟨_, z⟩ := (show ∃ t, Value.ref b = Value.bytes c t from r); cases z
    | flt c => obtain ⟨_, z⟩ := (show ∃ t, Value.ref b = Value.float c t from r); cases z
    | ty c => cases (show Value.ref b = Value.type c from r)
  subst ev
  refine (pe_bm PySem.F.plainAttrs_tuple PySem.F.slot_tuple_index PySem.F.type_tuple_index mt_tup_index (pe_glob hg mb r hd) (pa_cons ha pa_nil hs) hbase hfew hline hs hplain).imp fun σ H Q qq => ?_
  obtain ⟨ρ, e, h, R, E, a⟩ := qq
  unfold eIdxC at a
  refine ⟨.inr (.inl ⟨rfl, o, lk, hc, hdn⟩), ρ, e, h, R, E, a.bind.mono fun yv H2 ⟨ρ2, yd, h2, s2, R2, r2, a2⟩ => ?_⟩
  split at a2
  · rename_i z
    cases hj : idxS ys z with
    | none => rw [hj] at a2; exact a2.elim
    | some j =>
      rw [hj] at a2
      obtain ⟨h1, h2⟩ := idxS_ok hj
      obtain ⟨p2, vs, ev2, sq, rr⟩ := (q (sy T X) ρ2 H2 rfl).tup_
      cases ev2
      obtain rfl := rr.strs
      obtain rfl := r2.str_
      exact ⟨b, ys, z, j, rfl, rfl, sq, h1, h2, Aft.same (d := .int _) a2 R2 (.int _)⟩
  · exact a2.elim
end
end Lad
end
/-! ## LadC2 -/
section
set_option maxRecDepth 100000
set_option maxHeartbeats 2000000
namespace Lad
open PySem L2
/-! ### [e for x in a if c for y in b if d] -/
theorem wipe_wipe (σ : St) (vs : List Nat) : L2.wipe (L2.wipe σ vs) vs = L2.wipe σ vs := by
  have key : ∀ (ws : List Nat) (τ : St), (∀ i ∈ ws, ∀ y, τ[i]? ≠ some (some y)) → L2.wipe τ ws = τ := by
    intro ws
    induction ws with
    | nil => intro _ _; rfl
    | cons w ws ih =>
      intro τ hτ
      show (L2.wipe τ ws).set w none = τ
      rw [ih τ fun i hi => hτ i (List.mem_cons_of_mem _ hi)]
      apply List.ext_getElem?
      intro n
      by_cases hn : w = n
      · subst hn
        by_cases hl : w < τ.length
        · rw [List.getElem?_set_self hl]
          have := hτ w List.mem_cons_self
          cases q : τ[w]? with
          | none => rw [List.getElem?_eq_none_iff] at q; omega
          | some o =>
            cases o with
            | none => rfl
            | some y => exact absurd q (this y)
        · rw [List.getElem?_eq_none_iff.mpr (by simpa using hl), List.getElem?_eq_none_iff.mpr (by simpa using hl)]
      · rw [List.getElem?_set_ne hn]
  exact key vs _ fun i hi y hy => (wipe_some hy).2 hi
/-- while the list at D is made -/
structure MkL (S : Sy) (ρ1 : Own) (H1 : Hp) (D : Addr) (ρ : Own) (h : Hea) (acc : List Val) (H : Hp) : Prop where
  z : H1 D = none
  nη : D ∉ ρ1.hd
  hh : ρ.hd = D :: ρ1.hd
  g : Go S ρ1 H1 ⟨ρ.nm, ρ1.hd⟩ H
  R : Rel S ρ h H
  at_ : ∃ us, H D = some (.lst us) ∧ Reps S ρ H acc us
  off : Off ρ D
section
variable {S : Sy} {ρ1 ρ ρ' : Own} {H1 H H' : Hp} {D : Addr} {h h' : Hea} {acc : List Val}
theorem MkL.start (R : Rel S ρ1 h H1) (z : H1 D = none) : MkL S ρ1 H1 D (ρ1.hide D) h [] (upd H1 D (.lst [])) :=
  ⟨z, (R.fz z).2, rfl, .side z, R.hideNew z, ⟨[], upd_same, .nil⟩, fun i q => R.free z q⟩
theorem MkL.mv (m : MkL S ρ1 H1 D ρ h acc H) : Mv S ρ1 H1 ρ H := m.g.mvh m.hh m.z
theorem MkL.go (m : MkL S ρ1 H1 D ρ h acc H) (g : Go S ρ H ρ' H') (R : Rel S ρ' h' H') : MkL S ρ1 H1 D ρ' h' acc H' := by
  obtain ⟨us, hD, rA⟩ := m.at_
  refine ⟨m.z, m.nη, g.hd.trans m.hh, m.g.trans g.reh, R, ⟨us, g.fr D _ hD m.off, rA.go g⟩, fun i z => ?_⟩
  rcases g.nw i D z with ⟨j, q⟩ | q
  · exact m.off j q
  · rw [hD] at q; cases q
theorem MkL.add (m : MkL S ρ1 H1 D ρ h acc H) {y : Val} {v : V} (r : Rep S ρ H y v) (hl : acc.length < 16777216) :
    ∃ us, H D = some (.lst us) ∧ us.length < sizeLine ∧ MkL S ρ1 H1 D ρ h (acc ++ [y]) (upd H D (.lst (us ++ [v]))) ∧ Mv S ρ H ρ (upd H D (.lst (us ++ [v]))) := by
  obtain ⟨us, hD, rA⟩ := m.at_
  have mD : D ∈ ρ.hd := by rw [m.hh]; exact List.mem_cons_self
  have mv : Mv S ρ H ρ (upd H D (.lst (us ++ [v]))) := .hid mD hD True.intro
  have rl := rA.length
  exact ⟨us, hD, by rw [sizeLine_eq]; omega, ⟨m.z, m.nη, m.hh, m.g.tmp m.z hD, m.R.off m.off mD hD True.intro, ⟨_, upd_same, (rA.app (.one r)).mono mv⟩, m.off⟩, mv⟩
theorem MkL.fin (m : MkL S ρ1 H1 D ρ h acc H) {Q : VK} {W : XK} (a : AftL S ρ1 H1 (.ok acc h) Q W) : Q (.ref D) H := by
  obtain ⟨us, hD, rA⟩ := m.at_
  obtain ⟨k1, k2, k3⟩ := m.R.shown m.hh m.nη m.off hD rA
  exact a ⟨ρ.nm, ρ1.hd⟩ D us H m.g k1 hD ⟨m.off, m.nη⟩ m.z k2 k3
theorem AftL.noI {r : Res Src} {k : Src → Hea → Res (List Val)} {Q : VK} {W : XK} (a : AftL S ρ H ((Lad.noX r).bind k) Q W) :
    ∃ d h1, r = .ok d h1 ∧ AftL S ρ H (k d h1) Q W := by
  cases r with
  | ok d h => exact ⟨d, h, rfl, a⟩
  | exc c d h => exact a.elim
  | stuck => exact a.elim
end
theorem resAssoc {α β γ : Type} (r : Res α) (f : α → Hea → Res β) (g : β → Hea → Res γ) : (r.bind f).bind g = r.bind fun a h => (f a h).bind g := by cases r <;> rfl
def comp2G (it : Nat → Hea → Option (Option Val)) (b : Val → En → Option En) (tt : En → Hea → Res Val) (src1 : En → Hea → Res Src) (own1 : List Nat) (b1 : Val → En → Option En) (tt1 f : En → Hea → Res Val) (e0 : En) : Nat → Nat → List Val → Hea → Res (List Val)
  | 0, _, _, _ => .stuck
  | n + 1, k, acc, h => match it k h with
    | some none => .ok acc h
    | some (some v) => match b v e0 with
      | some e1 => (noX (tt e1 h)).bind fun c h1 => match c with
        | .bl true => (noX (src1 e1 h1)).bind fun s h2 => (compG s.item b1 tt1 f (wipeE e1 own1) s.fuel 0 acc h2).bind fun acc' h3 => comp2G it b tt src1 own1 b1 tt1 f e0 n (k + 1) acc' h3
        | .bl false => comp2G it b tt src1 own1 b1 tt1 f e0 n (k + 1) acc h1
        | _ => .stuck
      | none => .stuck
    | none => .stuck
def lComp2 (own own1 : List Nat) (src : En → Hea → Res Src) (b : Val → En → Option En) (tt : En → Hea → Res Val) (src1 : En → Hea → Res Src) (b1 : Val → En → Option En) (tt1 f : En → Hea → Res Val) : En → Hea → Res (List Val) := fun e h => (src e h).bind fun s h1 => comp2G s.item b tt src1 own1 b1 tt1 f (wipeE e own) s.fuel 0 [] h1
section
variable {T : Tb} {X : Cx} {W : WX} {tg iter tg1 iter1 elt : Expr} {ifs ifs1 : List Expr} {scope : Scope} {own : List (Str × Nat)} {own1 : List Nat} {src src1 : En → Hea → Res Src} {tt tt1 f : En → Hea → Res Val} {g g1 : TG} {b b1 : Val → En → Option En} {pos : Pos}
theorem lc2_imp (ok : GOk (sy T X) (own.map (·.2)) g b) (ok1 : GOk (sy T X) own1 g1 b1) {σ : St} {H : Hp} {Q : VK} (q : tL (sy T X) W (lComp2 (own.map (·.2)) own1 src b tt src1 b1 tt1 f) σ H Q) :
    tLc2 (tI (sy T X) W src) g (tB (tE (sy T X) W0 tt)) (tI (sy T X) W0 src1) g1 (tB (tE (sy T X) W0 tt1)) (tE (sy T X) W0 f) (own.map (·.2)) own1 σ H Q := by
  obtain ⟨ρ, e, h, R, E, a⟩ := q
  refine ⟨ρ, e, h, R, E, (AftL.bindI a).mono fun J H1 ⟨ρ1, d, h1, s, R1, j, a1⟩ => fun D hD => ?_⟩
  have E1 : ER (sy T X) ρ1 H1 e σ := E.go s
  have ew := E1.wipe (own.map (·.2))
  refine ⟨fun k m Hc => ∃ ρ2 h2 acc, MkL (sy T X) ρ1 H1 D ρ2 h2 acc Hc ∧ AftL (sy T X) ρ1 H1 (comp2G d.item b tt src1 own1 b1 tt1 f (wipeE e (own.map (·.2))) m k acc h2) Q (fun c d H' => W c d σ H'),
    ⟨d.fuel, ρ1.hide D, h1, [], .start R1 hD, a1⟩, fun k m Hc w => ?_⟩
  obtain ⟨ρ2, h2, acc, M2, a2⟩ := w
  cases m with
  | zero => exact a2.elim
  | succ m =>
    have jk := j ρ2 Hc h2 M2.mv M2.R k
    unfold comp2G at a2
    cases hit : d.item k h2 with
    | none => rw [hit] at a2; exact a2.elim
    | some o =>
      rw [hit] at a2 jk
      cases o with
      | none => exact .inl ⟨jk, M2.fin a2⟩
      | some v =>
        refine .inr ⟨jk.1, fun Hc => ∃ ρ2 h2 acc, MkL (sy T X) ρ1 H1 D ρ2 h2 acc Hc ∧ AftL (sy T X) ρ1 H1 (comp2G d.item b tt src1 own1 b1 tt1 f (wipeE e (own.map (·.2))) m (k + 1) acc h2) Q (fun c d H' => W c d σ H'),
          fun H' z => ⟨m, Nat.lt_succ_self m, z⟩, fun x H' y => ?_⟩
        obtain ⟨g3, R3, r3⟩ := jk.2 x H' y
        dsimp only at a2
        cases hbv : b v (wipeE e (own.map (·.2))) with
        | none => rw [hbv] at a2; exact a2.elim
        | some e3 =>
          rw [hbv] at a2
          have M3 := M2.go g3 R3
          refine ok ρ2 H' h2 _ _ v x e3 _ R3 (ew.mono M3.mv) r3 hbv fun σ3 E3 w3 => ⟨w3.trans (wipe_wipe _ _), ρ2, e3, h2, R3, E3, ?_⟩
          dsimp only at a2
          obtain ⟨cb, hb1, ht, a3⟩ := a2.noX
          rw [ht]
          refine fun ρ5 v5 H5 s5 R5 r5 => ?_
          have M5 := M3.go s5 R5
          split at a3
          · obtain rfl := r5.bl_
            refine ⟨true, rfl, itT rfl ?_⟩
            obtain ⟨d1, hb2, hs1, a4⟩ := a3.noI
            refine ⟨ρ5, e3, hb1, R5, E3.go s5, ?_⟩
            rw [hs1]
            refine fun ρ6 H6 J1 s6 R6 j1 => ?_
            have M6 := M5.go s6 R6
            have E6 := ((E3.go s5).go s6).wipe own1
            refine ⟨fun jj kk Hc => ∃ ρ7 h7 acc, MkL (sy T X) ρ1 H1 D ρ7 h7 acc Hc ∧ Mv (sy T X) ρ6 H6 ρ7 Hc ∧ AftL (sy T X) ρ1 H1 ((compG d1.item b1 tt1 f (wipeE e3 own1) kk jj acc h7).bind fun acc' h3 => comp2G d.item b tt src1 own1 b1 tt1 f (wipeE e (own.map (·.2))) m (k + 1) acc' h3) Q (fun c d H' => W c d σ H'),
              ⟨d1.fuel, ρ6, hb2, acc, M6, .rfl, a4⟩, fun jj kk Hc w => ?_⟩
            obtain ⟨ρ7, h7, acc7, M7, mv7, a7⟩ := w
            cases kk with
            | zero => exact a7.elim
            | succ kk =>
              have jk1 := j1 ρ7 Hc h7 mv7 M7.R jj
              unfold compG at a7
              cases hit1 : d1.item jj h7 with
              | none => rw [hit1] at a7; exact a7.elim
              | some o =>
                rw [hit1] at a7 jk1
                cases o with
                | none => exact .inl ⟨jk1, ρ7, h7, acc7, M7, a7⟩
                | some v1 =>
                  refine .inr ⟨jk1.1, fun Hc => ∃ ρ7 h7 acc, MkL (sy T X) ρ1 H1 D ρ7 h7 acc Hc ∧ Mv (sy T X) ρ6 H6 ρ7 Hc ∧ AftL (sy T X) ρ1 H1 ((compG d1.item b1 tt1 f (wipeE e3 own1) kk (jj + 1) acc h7).bind fun acc' h3 => comp2G d.item b tt src1 own1 b1 tt1 f (wipeE e (own.map (·.2))) m (k + 1) acc' h3) Q (fun c d H' => W c d σ H'),
                    fun H' z => ⟨kk, Nat.lt_succ_self kk, z⟩, fun x H' y => ?_⟩
                  obtain ⟨g8, R8, r8⟩ := jk1.2 x H' y
                  dsimp only at a7
                  cases hbv1 : b1 v1 (wipeE e3 own1) with
                  | none => rw [hbv1] at a7; exact a7.elim
                  | some e8 =>
                    rw [hbv1] at a7
                    have M8 := M7.go g8 R8
                    have mv8 := mv7.trans g8.mv
                    refine ok1 ρ7 H' h7 _ _ v1 x e8 _ R8 (E6.mono mv8) r8 hbv1 fun σ8 E8 w8 => ⟨w8.trans (wipe_wipe _ _), ρ7, e8, h7, R8, E8, ?_⟩
                    dsimp only at a7
                    rw [resAssoc] at a7
                    obtain ⟨cb1, hb8, ht1, a9⟩ := a7.noX
                    rw [ht1]
                    refine fun ρ9 v9 H9 s9 R9 r9 => ?_
                    have M9 := M8.go s9 R9
                    have mv9 := mv8.trans s9.mv
                    split at a9
                    · obtain rfl := r9.bl_
                      refine ⟨true, rfl, itT rfl ?_⟩
                      rw [resAssoc] at a9
                      obtain ⟨yv, hb10, hf, a10⟩ := a9.noX
                      refine ⟨ρ9, e8, hb8, R9, E8.go s9, ?_⟩
                      rw [hf]
                      refine fun ρ10 v10 H10 s10 R10 r10 => ?_
                      have M10 := M9.go s10 R10
                      split at a10
                      · rename_i hl
                        obtain ⟨us, hD10, hz, M11, mv11⟩ := M10.add r10 hl
                        exact ⟨us, hD10, hz, ρ10, hb10, acc7 ++ [yv], M11, (mv9.trans s10.mv).trans mv11, a10⟩
                      · exact a10.elim
                    · obtain rfl := r9.bl_
                      exact ⟨false, rfl, itF rfl ⟨ρ9, hb8, acc7, M9, mv9, a9⟩⟩
                    · exact a9.elim
          · obtain rfl := r5.bl_
            exact ⟨false, rfl, itF rfl ⟨ρ5, hb1, acc, M5, a3⟩⟩
          · exact a3.elim
theorem sl_comp2 (hc : X.calm = true) (hN : X.N.Nodup) (hi : SI T X W tg iter src) (bk : BlkOk X.N X.env.scope scope own) (hv : ∀ i ∈ own1, i ∈ own.map (·.2))
    (hg : ∀ (s : Shared) (H : Hp) (C : Addr) (cl : List (Str × Addr)) (fp : List Addr), PG (X.blk s H scope (compEnvC scope cl C X.env) fp) tg g)
    (ok : GOk (sy T X) (own.map (·.2)) g b)
    (ht : ∀ (s : Shared) (H : Hp) (C : Addr) (cl : List (Str × Addr)) (fp : List Addr), STs T (X.blk s H scope (compEnvC scope cl C X.env) fp) W0 ifs tt)
    (hi1 : ∀ (s : Shared) (H : Hp) (C : Addr) (cl : List (Str × Addr)) (fp : List Addr), SI T (X.blk s H scope (compEnvC scope cl C X.env) fp) W0 tg1 iter1 src1)
    (hg1 : ∀ (s : Shared) (H : Hp) (C : Addr) (cl : List (Str × Addr)) (fp : List Addr), PG (X.blk s H scope (compEnvC scope cl C X.env) fp) tg1 g1)
    (ok1 : GOk (sy T X) own1 g1 b1)
    (ht1 : ∀ (s : Shared) (H : Hp) (C : Addr) (cl : List (Str × Addr)) (fp : List Addr), STs T (X.blk s H scope (compEnvC scope cl C X.env) fp) W0 ifs1 tt1)
    (he : ∀ (s : Shared) (H : Hp) (C : Addr) (cl : List (Str × Addr)) (fp : List Addr), SE T (X.blk s H scope (compEnvC scope cl C X.env) fp) W0 elt f)
    (hs : ∀ x, foldedSetIterable iter X.env x = pure x := by intro _; rfl) (hs1 : ∀ env x, foldedSetIterable iter1 env x = pure x := by intro _ _; rfl) :
    SL T X W (.ListComp elt [⟨tg, iter, ifs, 0⟩, ⟨tg1, iter1, ifs1, 0⟩] scope pos) (lComp2 (own.map (·.2)) own1 src b tt src1 b1 tt1 f) :=
  (pe_lc2 hc hN hi bk hv hg ht hi1 hg1 ht1 he hs hs1).imp fun σ H Q q => lc2_imp ok ok1 q
theorem st_setLc2 {i : Nat} {y : Str} {py spos : Pos} (hc : X.calm = true) (hN : X.N.Nodup) (hy : X.N[i]? = some y) (hyl : X.env.scope.names.lookup y = some .local)
    (hsw : swapsWith (.ListComp elt [⟨tg, iter, ifs, 0⟩, ⟨tg1, iter1, ifs1, 0⟩] scope pos) (some (.Name y py)) spos.line X.env = pure true) (hi : SI T X W tg iter src) (bk : BlkOk X.N X.env.scope scope own) (hv : ∀ i ∈ own1, i ∈ own.map (·.2))
    (hg : ∀ (s : Shared) (H : Hp) (C : Addr) (cl : List (Str × Addr)) (fp : List Addr), PG (X.blk s H scope (compEnvC scope cl C X.env) fp) tg g)
    (ok : GOk (sy T X) (own.map (·.2)) g b)
    (ht : ∀ (s : Shared) (H : Hp) (C : Addr) (cl : List (Str × Addr)) (fp : List Addr), STs T (X.blk s H scope (compEnvC scope cl C X.env) fp) W0 ifs tt)
    (hi1 : ∀ (s : Shared) (H : Hp) (C : Addr) (cl : List (Str × Addr)) (fp : List Addr), SI T (X.blk s H scope (compEnvC scope cl C X.env) fp) W0 tg1 iter1 src1)
    (hg1 : ∀ (s : Shared) (H : Hp) (C : Addr) (cl : List (Str × Addr)) (fp : List Addr), PG (X.blk s H scope (compEnvC scope cl C X.env) fp) tg1 g1)
    (ok1 : GOk (sy T X) own1 g1 b1)
    (ht1 : ∀ (s : Shared) (H : Hp) (C : Addr) (cl : List (Str × Addr)) (fp : List Addr), STs T (X.blk s H scope (compEnvC scope cl C X.env) fp) W0 ifs1 tt1)
    (he : ∀ (s : Shared) (H : Hp) (C : Addr) (cl : List (Str × Addr)) (fp : List Addr), SE T (X.blk s H scope (compEnvC scope cl C X.env) fp) W0 elt f)
    (hs : ∀ x, foldedSetIterable iter X.env x = pure x := by intro _; rfl) (hs1 : ∀ env x, foldedSetIterable iter1 env x = pure x := by intro _ _; rfl) :
    SSt T X W (.Assign [.Name y py] (.ListComp elt [⟨tg, iter, ifs, 0⟩, ⟨tg1, iter1, ifs1, 0⟩] scope pos) spos) (sSet i (eNew (lComp2 (own.map (·.2)) own1 src b tt src1 b1 tt1 f))) :=
  (ps_setLc2 hc hN hy hyl hsw hi bk hv hg ht hi1 hg1 ht1 he hs hs1).imp fun D σ H q => by
    refine lc2_imp (W := W) (tt := tt) (tt1 := tt1) (src1 := src1) (src := src) (f := f) (Q := fun x H1 => gName i x σ H1 D.nx) ok ok1 ?_
    obtain ⟨ρ, e, h, R, E, a⟩ := q
    refine ⟨ρ, e, h, R, E, ?_⟩
    unfold sSet eNew at a
    revert a
    cases lComp2 (own.map (·.2)) own1 src b tt src1 b1 tt1 f e h with
    | ok xs h1 => exact fun a ρ1 p vs H1 s R1 el n z r k => a (ρ1.add p) _ H1 (s.adopt z) k ((E.go (s.adopt z)).set (.ref (by rw [R1.len]; exact add_at)) i)
    | exc c d h1 => exact fun a ρ1 v H1 dx s R1 r x => a ρ1 v σ H1 dx s R1 r (E.go s) x
    | stuck => exact id
theorem st_setLc2F {i : Nat} {y : Str} {py spos : Pos} (hc : X.calm = true) (hN : X.N.Nodup) (hy : X.N[i]? = some y) (hyl : X.env.scope.names.lookup y = some .local)
    (hsw : swapsWith (.ListComp elt [⟨tg, iter, ifs, 0⟩, ⟨tg1, iter1, ifs1, 0⟩] scope pos) (some (.Name y py)) spos.line X.env = pure true) (hi : SI T X W tg iter src) (bk : BlkOk X.N X.env.scope scope own) (hv : ∀ i ∈ own1, i ∈ own.map (·.2))
    (hg : ∀ (s : Shared) (H : Hp) (C : Addr) (cl : List (Str × Addr)) (fp : List Addr), PG (X.blk s H scope (compEnvC scope cl C X.env) fp) tg g)
    (ok : GOk (sy T X) (own.map (·.2)) g b)
    (ht : ∀ (s : Shared) (H : Hp) (C : Addr) (cl : List (Str × Addr)) (fp : List Addr), STs T (X.blk s H scope (compEnvC scope cl C X.env) fp) W0 ifs tt)
    (hi1 : ∀ (s : Shared) (H : Hp) (C : Addr) (cl : List (Str × Addr)) (fp : List Addr), SI T (X.blk s H scope (compEnvC scope cl C X.env) fp) W0 tg1 iter1 src1)
    (hg1 : ∀ (s : Shared) (H : Hp) (C : Addr) (cl : List (Str × Addr)) (fp : List Addr), PG (X.blk s H scope (compEnvC scope cl C X.env) fp) tg1 g1)
    (ok1 : GOk (sy T X) own1 g1 b1)
    (ht1 : ∀ (s : Shared) (H : Hp) (C : Addr) (cl : List (Str × Addr)) (fp : List Addr), STs T (X.blk s H scope (compEnvC scope cl C X.env) fp) W0 ifs1 tt1)
    (he : ∀ (s : Shared) (H : Hp) (C : Addr) (cl : List (Str × Addr)) (fp : List Addr), SE T (X.blk s H scope (compEnvC scope cl C X.env) fp) W0 elt f)
    (hs : ∀ x, foldedSetIterable iter X.env x = pure x := by intro _; rfl) (hs1 : ∀ env x, foldedSetIterable iter1 env x = pure x := by intro _ _; rfl) :
    SSt T X W (.Assign [.Name y py] (.ListComp elt [⟨tg, iter, ifs, 0⟩, ⟨tg1, iter1, ifs1, 0⟩] scope pos) spos) (sSet i (eLst (lComp2 (own.map (·.2)) own1 src b tt src1 b1 tt1 f))) :=
  (ps_setLc2 hc hN hy hyl hsw hi bk hv hg ht hi1 hg1 ht1 he hs hs1).imp fun D σ H q => by
    refine lc2_imp (W := W) (tt := tt) (tt1 := tt1) (src1 := src1) (src := src) (f := f) (Q := fun x H1 => gName i x σ H1 D.nx) ok ok1 ?_
    obtain ⟨ρ, e, h, R, E, a⟩ := q
    refine ⟨ρ, e, h, R, E, ?_⟩
    unfold sSet eLst at a
    revert a
    cases lComp2 (own.map (·.2)) own1 src b tt src1 b1 tt1 f e h with
    | ok xs h1 => exact fun a ρ1 p vs H1 s R1 el n z r k => a ρ1 _ H1 s R1 ((E.go s).set (.lst n el r) i)
    | exc c d h1 => exact fun a ρ1 v H1 dx s R1 r x => a ρ1 v σ H1 dx s R1 r (E.go s) x
    | stuck => exact id
end
end Lad
end
/-! ## LadZip -/
section
set_option maxRecDepth 100000
set_option maxHeartbeats 2000000
namespace Lad
open PySem L2
/-! ### zip(a, b): two lists or two tuples -/
def zipV (xs ys : List Val) : List Val := List.zipWith (fun x y => Val.tup [x, y]) xs ys
def srcZipL (d1 d2 : Val) : Src := ⟨fun k h => match lstOf h d1, lstOf h d2 with
  | some xs, some ys => some (zipV xs ys)[k]?
  | _, _ => none, 100000, none, fun _ h => nomatch h⟩
def iZipV (f : En → Hea → Res (List Val)) : En → Hea → Res Src := fun e h => (f e h).bind fun ds h1 => match ds with
  | [.lst xs, .lst ys] => .ok (srcFix (zipV xs ys)) h1
  | [.tup xs, .tup ys] => .ok (srcFix (zipV xs ys)) h1
  | [d1, d2] => if ((lstOf h1 d1).isSome && (lstOf h1 d2).isSome) = true then .ok (srcZipL d1 d2) h1 else .stuck
  | _ => .stuck
section
variable {S : Sy} {H : Hp} {ρ : Own}
theorem zipV_get {xs ys : List Val} {k : Nat} : (zipV xs ys)[k]? = match xs[k]?, ys[k]? with
    | some x, some y => some (.tup [x, y])
    | _, _ => none := by
  unfold zipV
  rw [List.getElem?_zipWith]
  cases xs[k]? <;> cases ys[k]? <;> rfl
theorem zip_turnL {K} {ρ' : Own} {H' : Hp} {h' : Hea} {a b : Addr} {xs ys : List Val} {vs us : List V} {k : Nat} (hK : S.K = K) (R : Rel S ρ' h' H') (sq1 : SqL K H' a vs) (sq2 : SqL K H' b us) (r1 : Reps S ρ' H' xs vs) (r2 : Reps S ρ' H' ys us) :
    match some (zipV xs ys)[k]? with
    | some none => (Itz K a b).stop k H'
    | some (some d) => (Itz K a b).go k H' ∧ ∀ x H'', (Itz K a b).yld k H' x H'' → Go S ρ' H' ρ' H'' ∧ Rel S ρ' h' H'' ∧ Rep S ρ' H'' d x
    | none => True := by
  rw [zipV_get]
  cases ex : xs[k]? with
  | none =>
    have hk : xs.length ≤ k := List.getElem?_eq_none_iff.mp ex
    exact ⟨vs, us, sq1, sq2, .inl (by rw [← r1.length]; exact hk)⟩
  | some x =>
    cases ey : ys[k]? with
    | none =>
      have hk : ys.length ≤ k := List.getElem?_eq_none_iff.mp ey
      exact ⟨vs, us, sq1, sq2, .inr (by rw [← r2.length]; exact hk)⟩
    | some y =>
      obtain ⟨v, ev, rv⟩ := r1.get ex
      obtain ⟨u, eu, ru⟩ := r2.get ey
      refine ⟨⟨vs, us, v, u, sq1, sq2, ev, eu⟩, fun z H'' q => ?_⟩
      obtain ⟨T, x', y', rfl, hT, rfl, q1, q2⟩ := q
      have e1 := q1 vs sq1
      have e2 := q2 us sq2
      rw [ev] at e1
      rw [eu] at e2
      cases e1
      cases e2
      have m : Mv S ρ' H' ρ' (upd H' T (.tup [v, u])) := .side hT
      exact ⟨.side hT, R.side hT, .tup (.inl (.inl upd_same)) (.cons (rv.mono m) (.cons (ru.mono m) .nil))⟩
theorem zip_turnT {K} {ρ' : Own} {H' : Hp} {h' : Hea} {a b : Addr} {xs ys : List Val} {vs us : List V} {k : Nat} (hK : S.K = K) (R : Rel S ρ' h' H') (sq1 : SqT K H' a vs) (sq2 : SqT K H' b us) (r1 : Reps S ρ' H' xs vs) (r2 : Reps S ρ' H' ys us) :
    match some (zipV xs ys)[k]? with
    | some none => (RZ.ItzT K a b).stop k H'
    | some (some d) => (RZ.ItzT K a b).go k H' ∧ ∀ x H'', (RZ.ItzT K a b).yld k H' x H'' → Go S ρ' H' ρ' H'' ∧ Rel S ρ' h' H'' ∧ Rep S ρ' H'' d x
    | none => True := by
  rw [zipV_get]
  cases ex : xs[k]? with
  | none =>
    have hk : xs.length ≤ k := List.getElem?_eq_none_iff.mp ex
    exact ⟨vs, us, sq1, sq2, .inl (by rw [← r1.length]; exact hk)⟩
  | some x =>
    cases ey : ys[k]? with
    | none =>
      have hk : ys.length ≤ k := List.getElem?_eq_none_iff.mp ey
      exact ⟨vs, us, sq1, sq2, .inr (by rw [← r2.length]; exact hk)⟩
    | some y =>
      obtain ⟨v, ev, rv⟩ := r1.get ex
      obtain ⟨u, eu, ru⟩ := r2.get ey
      refine ⟨⟨vs, us, v, u, sq1, sq2, ev, eu⟩, fun z H'' q => ?_⟩
      obtain ⟨T, x', y', rfl, hT, rfl, q1, q2⟩ := q
      have e1 := q1 vs sq1
      have e2 := q2 us sq2
      rw [ev] at e1
      rw [eu] at e2
      cases e1
      cases e2
      have m : Mv S ρ' H' ρ' (upd H' T (.tup [v, u])) := .side hT
      exact ⟨.side hT, R.side hT, .tup (.inl (.inl upd_same)) (.cons (rv.mono m) (.cons (ru.mono m) .nil))⟩
end
section
variable {T : Tb} {X : Cx} {W : WX} {tg a b : Expr} {g : En → Hea → Res (List Val)} {pos p tpos : Pos} {elts : List Expr} {kk : Nat}
theorem si_zip (hg : Gl X "zip") (hm : X.mg "zip" = none) (ha : SA T X W [a, b] g) (hs : starEach [a, b] X.env = (false, eval a X.env) :: starEach [b] X.env := by rfl) (hpl : (backTo pos (starEach [b] X.env)).any (·.1) = false := by rfl) :
    SI T X W (.Tuple elts kk tpos) (.Call (.Name "zip" p) [a, b] [] pos) (iZipV g) := (RZ.pi_zipA hg hm ha hs hpl).imp fun σ H Q q => by
  obtain ⟨ρ, e, h, R, E, a⟩ := q
  unfold iZipV at a
  refine ⟨ρ, e, h, R, E, (AftI.bindA a).mono fun v H1 ⟨ρ1, d, h1, s, R1, r, a1⟩ => ?_⟩
  split at a1
  · match v, r with
    | [v1, v2], .cons r1 (.cons r2 .nil) =>
      cases r1 with
      | lst f1 hl1 rr1 =>
        cases r2 with
        | lst f2 hl2 rr2 =>
          refine ⟨_, _, _, _, rfl, .inl ⟨.inl (.inl hl1), .inl (.inl hl2), a1 ρ1 H1 _ .rfl R1 (jfix fun ρ' H' h' m R' k _ => ?_)⟩⟩
          exact zip_turnL rfl R' (.inl (.inl (m.fz _ _ hl1 f1).1)) (.inl (.inl (m.fz _ _ hl2 f2).1)) (rr1.mono m) (rr2.mono m)
  · match v, r with
    | [v1, v2], .cons r1 (.cons r2 .nil) =>
      obtain ⟨p1, us1, rfl, sq1, rr1⟩ := r1.tup_
      obtain ⟨p2, us2, rfl, sq2, rr2⟩ := r2.tup_
      refine ⟨_, _, _, _, rfl, .inr ⟨sq1, sq2, a1 ρ1 H1 _ .rfl R1 (jfix fun ρ' H' h' m R' k _ => ?_)⟩⟩
      exact zip_turnT rfl R' (m.kp.1 _ _ sq1) (m.kp.1 _ _ sq2) (rr1.mono m) (rr2.mono m)
  · rename_i d1 d2 _ _
    split at a1
    · rename_i hc
      obtain ⟨c1, c2⟩ := Bool.and_eq_true_iff.mp hc
      obtain ⟨xs, hx⟩ := Option.isSome_iff_exists.mp c1
      obtain ⟨ys, hy⟩ := Option.isSome_iff_exists.mp c2
      match v, r with
      | [v1, v2], .cons r1 (.cons r2 .nil) =>
        obtain ⟨p1, us1, e1, sq1, rr1⟩ := R1.lstV r1 hx
        obtain ⟨p2, us2, e2, sq2, rr2⟩ := R1.lstV r2 hy
        refine ⟨p1, p2, us1, us2, by rw [e1, e2], .inl ⟨sq1, sq2, a1 ρ1 H1 _ .rfl R1 fun ρ' H' h' m R' k => ?_⟩⟩
        show match (match lstOf h' d1, lstOf h' d2 with | some xs, some ys => some (zipV xs ys)[k]? | _, _ => none) with | some none => _ | some (some d) => _ | none => _
        cases hx' : lstOf h' d1 with
        | none => exact True.intro
        | some xs' =>
          cases hy' : lstOf h' d2 with
          | none => exact True.intro
          | some ys' =>
            obtain ⟨q1, ws1, z1, sq1', rr1'⟩ := R'.lstV (r1.mono m) hx'
            obtain ⟨q2, ws2, z2, sq2', rr2'⟩ := R'.lstV (r2.mono m) hy'
            rw [e1] at z1
            rw [e2] at z2
            cases z1
            cases z2
            exact zip_turnL rfl R' sq1' sq2' rr1' rr2'
    · exact a1.elim
  · exact a1.elim
end
end Lad
end
/-! ## LadDis -/
section
set_option maxRecDepth 100000
set_option maxHeartbeats 2000000
namespace Lad
open PySem L2
/-! ### {k: v, ..}: keys ints and texts -/
/-- while the thing at D is hidden -/
structure Hid (S : Sy) (ρ1 : Own) (H1 : Hp) (D : Addr) (o : HO) (ρ : Own) (h : Hea) (H : Hp) : Prop where
  z : H1 D = none
  nη : D ∉ ρ1.hd
  hh : ρ.hd = D :: ρ1.hd
  g : Go S ρ1 H1 ⟨ρ.nm, ρ1.hd⟩ H
  R : Rel S ρ h H
  at_ : H D = some o
  off : Off ρ D
section
variable {S : Sy} {ρ1 ρ ρ' : Own} {H1 H H' : Hp} {D : Addr} {h h' : Hea} {o o' : HO}
theorem Hid.start (R : Rel S ρ1 h H1) (z : H1 D = none) : Hid S ρ1 H1 D o (ρ1.hide D) h (upd H1 D o) :=
  ⟨z, (R.fz z).2, rfl, .side z, R.hideNew z, upd_same, fun i q => R.free z q⟩
theorem Hid.mv (m : Hid S ρ1 H1 D o ρ h H) : Mv S ρ1 H1 ρ H := m.g.mvh m.hh m.z
theorem Hid.go (m : Hid S ρ1 H1 D o ρ h H) (g : Go S ρ H ρ' H') (R : Rel S ρ' h' H') : Hid S ρ1 H1 D o ρ' h' H' := by
  refine ⟨m.z, m.nη, g.hd.trans m.hh, m.g.trans g.reh, R, g.fr D _ m.at_ m.off, fun i z => ?_⟩
  rcases g.nw i D z with ⟨j, q⟩ | q
  · exact m.off j q
  · rw [m.at_] at q; cases q
/-- it gets what it holds -/
theorem Hid.put (m : Hid S ρ1 H1 D o ρ h H) (c : Ch o) : Hid S ρ1 H1 D o' ρ h (upd H D o') ∧ Mv S ρ H ρ (upd H D o') := by
  have mD : D ∈ ρ.hd := by rw [m.hh]; exact List.mem_cons_self
  refine ⟨⟨m.z, m.nη, m.hh, ?_, m.R.off m.off mD m.at_ c, upd_same, m.off⟩, .hid mD m.at_ c⟩
  exact ⟨m.g.sub, m.g.kp.trans (.put m.at_ c), fun a o q n => by rw [upd_ne (ne_of_none q m.z)]; exact m.g.fr a o q n, m.g.nw, m.g.hd⟩
/-- it is made: frozen -/
theorem Hid.out (m : Hid S ρ1 H1 D o ρ h H) : Mv S ρ H ⟨ρ.nm, ρ1.hd⟩ H ∧ Rel S ⟨ρ.nm, ρ1.hd⟩ h H ∧ Fz ⟨ρ.nm, ρ1.hd⟩ D := by
  have m1 : Mv S ρ H ⟨ρ.nm, ρ1.hd⟩ H := ⟨fun _ _ h => h, .rfl, fun a o e f => ⟨e, f.1, fun q => f.2 (by rw [m.hh]; exact List.mem_cons_of_mem _ q)⟩⟩
  have hi : ∀ a, a ∈ ρ1.hd → (∃ u, H a = some u) ∧ Off (⟨ρ.nm, ρ1.hd⟩ : Own) a := fun a q => m.R.hid a (by rw [m.hh]; exact List.mem_cons_of_mem _ q)
  exact ⟨m1, ⟨m.R.len, m.R.inj, fun i o a e1 e2 => (m.R.ob i o a e1 e2).mono m1 rfl, hi⟩, m.off, m.nη⟩
/-- it is made: held -/
theorem Hid.held (m : Hid S ρ1 H1 D o ρ h H) {ob : Ob} (q : ObR S (Own.add ⟨ρ.nm, ρ1.hd⟩ D) H ob D) : Rel S (Own.add ⟨ρ.nm, ρ1.hd⟩ D) (h ++ [ob]) H := by
  have m1 := m.out.1
  have m2 : Mv S ρ H (Own.add ⟨ρ.nm, ρ1.hd⟩ D) H := ⟨Sub.app (ρ := ⟨ρ.nm, ρ1.hd⟩), .rfl, fun a o e f => ⟨e, (m1.fz a o e f).2.add fun z => f.2 (by rw [m.hh, z]; exact List.mem_cons_self)⟩⟩
  have hi : ∀ a, a ∈ ρ1.hd → (∃ u, H a = some u) ∧ Off (⟨ρ.nm, ρ1.hd⟩ : Own) a := fun a q => m.R.hid a (by rw [m.hh]; exact List.mem_cons_of_mem _ q)
  exact Rel.grow (ρ := ⟨ρ.nm, ρ1.hd⟩) m.R.len m.R.inj m.off (fun i o a e1 e2 => (m.R.ob i o a e1 e2).mono m2 rfl) q hi m.nη
theorem Hid.mvHeld (m : Hid S ρ1 H1 D o ρ h H) : Mv S ρ H (Own.add ⟨ρ.nm, ρ1.hd⟩ D) H := 
  ⟨Sub.app (ρ := ⟨ρ.nm, ρ1.hd⟩), .rfl, fun a o e f => ⟨e, (m.out.1.fz a o e f).2.add fun z => f.2 (by rw [m.hh, z]; exact List.mem_cons_self)⟩⟩
end
abbrev FF := (En → Hea → Res Val) × (En → Hea → Res Val)
def dPrs : List FF → En → Hea → Res (List (Val × Val))
  | [], _, h => .ok [] h
  | p :: r, e, h => (noX (p.1 e h)).bind fun x h1 => (noX (p.2 e h1)).bind fun y h2 => (dPrs r e h2).bind fun l h3 => .ok ((x, y) :: l) h3
def mergeKv (acc : List (Val × Val)) : List (Val × Val) → List (Val × Val)
  | [] => acc
  | p :: r => mergeKv (putKv p.1 p.2 acc) r
def dispOk (l : List (Val × Val)) : Bool := decide (l.length ≤ 15) && l.all fun p => (toKey p.1).isSome
def eDisp (fs : List FF) : En → Hea → Res Val := fun e h => (dPrs fs e h).bind fun l h1 => if dispOk l = true then .ok (.dic false ((mergeKv [] l).map (·.1)) ((mergeKv [] l).map (·.2))) h1 else .stuck
/-- to be changed -/
def eDispK (fs : List FF) : En → Hea → Res Val := fun e h => (dPrs fs e h).bind fun l h1 => if dispOk l = true then .ok (.ref h1.length) (h1 ++ [.dcK (mergeKv [] l)]) else .stuck
inductive Prs (S : Sy) (ρ : Own) (H : Hp) : List (Val × Val) → List (V × V) → Prop where
  | nil : Prs S ρ H [] []
  | cons {x y : Val} {u v : V} {ds : List (Val × Val)} {vs : List (V × V)} : Rep S ρ H x u → Rep S ρ H y v → Prs S ρ H ds vs → Prs S ρ H ((x, y) :: ds) ((u, v) :: vs)
theorem noX_ok {α : Type} {r : Res α} {a : α} {h : Hea} (e : noX r = .ok a h) : r = .ok a h := by
  cases r <;> cases e
  rfl
theorem bind_ok {α β : Type} {r : Res α} {k : α → Hea → Res β} {b : β} {h : Hea} (e : r.bind k = .ok b h) : ∃ a h1, r = .ok a h1 ∧ k a h1 = .ok b h := by
  cases r with
  | ok a h1 => exact ⟨a, h1, rfl, e⟩
  | exc c d h1 => cases e
  | stuck => cases e
section
variable {S : Sy} {W : WX}
theorem pairs_ok {e : En} {σ : St} : ∀ (fs : List FF) {h h' : Hea} {l : List (Val × Val)} {ρ : Own} {H : Hp} {Q : List (V × V) → Hp → Prop}, dPrs fs e h = .ok l h' → Rel S ρ h H → ER S ρ H e σ → (∀ ρ' ps H', Go S ρ H ρ' H' → Rel S ρ' h' H' → Prs S ρ' H' l ps → Q ps H') →
    tPairs (fs.map fun p => (tE S W p.1, tE S W p.2)) σ H Q
  | [], h, h', l, ρ, H, Q, q, R, E, a => by
    cases q
    exact a ρ [] H .rfl R .nil
  | p :: fs, h, h', l, ρ, H, Q, q, R, E, a => by
    unfold dPrs at q
    obtain ⟨x, h1, e1, q⟩ := bind_ok q
    obtain ⟨y, h2, e2, q⟩ := bind_ok q
    obtain ⟨l', h3, e3, q⟩ := bind_ok q
    cases q
    show tE S W p.1 σ H _
    refine ⟨ρ, e, h, R, E, ?_⟩
    rw [noX_ok e1]
    refine fun ρ1 u H1 s1 R1 r1 => ⟨ρ1, e, h1, R1, E.go s1, ?_⟩
    rw [noX_ok e2]
    refine fun ρ2 v H2 s2 R2 r2 => pairs_ok fs e3 R2 ((E.go s1).go s2) fun ρ3 ps H3 s3 R3 r3 => ?_
    exact a ρ3 _ H3 ((s1.trans s2).trans s3) R3 (.cons ((r1.go s2).go s3) (r2.go s3) r3)
theorem prs_keys {ρ : Own} {H : Hp} {l : List (Val × Val)} {ps : List (V × V)} (c : (l.all fun p => (toKey p.1).isSome) = true) (t : Prs S ρ H l ps) : ∃ kvs : List (Key × V), ps = kvs.map (fun kv => (kV kv.1, kv.2)) ∧ KvR S ρ H kvK l kvs := by
  induction t with
  | nil => exact ⟨[], rfl, .nil⟩
  | cons r1 r2 t ih =>
    rw [List.all_cons, Bool.and_eq_true] at c
    obtain ⟨k, hk⟩ := Option.isSome_iff_exists.mp c.1
    obtain ⟨kvs, e, q⟩ := ih c.2
    obtain rfl := toKey_ok hk
    obtain rfl := kvK_rep r1
    exact ⟨(k, _) :: kvs, by rw [e]; rfl, .cons r2 q⟩
theorem KvR.merge {ρ : Own} {H : Hp} : ∀ {l acc : List (Val × Val)} {kvs as : List (Key × V)}, KvR S ρ H kvK acc as → KvR S ρ H kvK l kvs → KvR S ρ H kvK (mergeKv acc l) (mergeK as kvs)
  | _, _, _, _, q, .nil => q
  | _, _, _, _, q, .cons r t => (q.put r).merge t
theorem Aft.bindP {ρ : Own} {H : Hp} {r : Res (List (Val × Val))} {k : List (Val × Val) → Hea → Res Val} {Q : VK} {X : XK} (n : ∀ c d h, r ≠ .exc c d h) (a : Aft S ρ H (r.bind k) Q X) : ∃ l h1, r = .ok l h1 ∧ Aft S ρ H (k l h1) Q X := by
  cases r with
  | ok l h1 => exact ⟨l, h1, rfl, a⟩
  | exc c d h1 => exact absurd rfl (n c d h1)
  | stuck => exact a.elim
theorem dPrs_no : ∀ (fs : List FF) (e : En) (h : Hea) c d g, dPrs fs e h ≠ .exc c d g
  | [], e, h, c, d, g => by intro q; cases q
  | p :: fs, e, h, c, d, g => by
    intro q
    unfold dPrs at q
    cases e1 : p.1 e h with
    | ok x h1 =>
      rw [e1] at q
      change ((noX (p.2 e h1)).bind _) = _ at q
      cases e2 : p.2 e h1 with
      | ok y h2 =>
        rw [e2] at q
        change ((dPrs fs e h2).bind _) = _ at q
        cases e3 : dPrs fs e h2 with
        | ok l h3 => rw [e3] at q; cases q
        | exc c d h3 => exact dPrs_no fs e h2 c d h3 e3
        | stuck => rw [e3] at q; cases q
      | exc c d h2 => rw [e2] at q; cases q
      | stuck => rw [e2] at q; cases q
    | exc c d h2 => rw [e1] at q; cases q
    | stuck => rw [e1] at q; cases q
end
section
variable {T : Tb} {X : Cx} {W : WX} {pos : Pos} {keys : List (Option Expr)} {values : List Expr} {fs : List FF}
abbrev SPs (T : Tb) (X : Cx) (W : WX) (pos : Pos) (keys : List (Option Expr)) (values : List Expr) (fs : List FF) : Prop := PPs X pos keys values (fs.map fun p => (tE (sy T X) W p.1, tE (sy T X) W p.2))
theorem sp_nil : SPs T X W pos [] [] [] := pps_nil
theorem sp_cons {k v : Expr} {f1 f2 : En → Hea → Res Val} (hk : SE T X W k f1) (hv : SE T X W v f2) (hr : SPs T X W pos keys values fs) : SPs T X W pos (some k :: keys) (v :: values) ((f1, f2) :: fs) := pps_cons hk hv hr
theorem disp_imp {σ : St} {H : Hp} {Q : VK} {l : List (Val × Val)} {h h1 : Hea} {e : En} {ρ : Own} (hp : dPrs fs e h = .ok l h1) (hd : dispOk l = true) (R : Rel (sy T X) ρ h H) (E : ER (sy T X) ρ H e σ)
    (a : ∀ (ρ1 : Own) (H1 : Hp) (p : Addr) (kvs : List (Key × V)), Hid (sy T X) ρ H p (.dK kvs) ρ1 h1 H1 → KvR (sy T X) ρ1 H1 kvK (mergeKv [] l) kvs → Q (.ref p) H1) : tDisp (fs.map fun p => (tE (sy T X) W p.1, tE (sy T X) W p.2)) σ H Q := by
  intro p np
  have M := Hid.start (o := .dK []) R np
  unfold dispOk at hd
  rw [Bool.and_eq_true] at hd
  refine pairs_ok fs hp M.R (E.mono M.mv) fun ρ2 ps H2 s2 R2 r2 => ?_
  have M2 := M.go s2 R2
  obtain ⟨kvs, e1, q⟩ := prs_keys hd.2 r2
  obtain ⟨M3, m3⟩ := M2.put (o' := .dK (mergeK [] kvs)) True.intro
  have hl : kvs.length ≤ 15 := by rw [← q.length]; exact of_decide_eq_true hd.1
  exact ⟨M2.at_, kvs, e1, hl, a _ _ _ _ M3 ((KvR.merge .nil q).mono m3)⟩
theorem se_disp (h : SPs T X W pos keys values fs) (hall : keys.all (·.isSome) = true := by rfl) (hl : keys.length = values.length := by rfl) (h0 : keys ≠ [] := by intro h; cases h) (h15 : keys.length ≤ 15 := by decide) : SE T X W (.Dict keys values pos) (eDisp fs) :=
  (pe_disp h hall hl h0 h15).imp fun σ H Q q => by
    obtain ⟨ρ, e, h, R, E, a⟩ := q
    obtain ⟨l, h1, hp, a⟩ := Aft.bindP (dPrs_no fs e h) a
    split at a
    · rename_i hd
      refine disp_imp hp hd R E fun ρ1 H1 p kvs M q => ?_
      obtain ⟨m, R1, f⟩ := M.out
      obtain ⟨s1, s2⟩ := (q.mono m).split
      exact a ⟨ρ1.nm, ρ.hd⟩ (.ref p) H1 M.g R1 (.dicK f M.at_ s1 rfl s2)
    · exact a.elim
theorem se_dispK (h : SPs T X W pos keys values fs) (hall : keys.all (·.isSome) = true := by rfl) (hl : keys.length = values.length := by rfl) (h0 : keys ≠ [] := by intro h; cases h) (h15 : keys.length ≤ 15 := by decide) : SE T X W (.Dict keys values pos) (eDispK fs) :=
  (pe_disp h hall hl h0 h15).imp fun σ H Q q => by
    obtain ⟨ρ, e, h, R, E, a⟩ := q
    obtain ⟨l, h1, hp, a⟩ := Aft.bindP (dPrs_no fs e h) a
    split at a
    · rename_i hd
      refine disp_imp hp hd R E fun ρ1 H1 p kvs M q => ?_
      exact a (Own.add ⟨ρ1.nm, ρ.hd⟩ p) (.ref p) H1 (M.g.adopt M.z) (M.held (.dcK M.at_ (q.mono M.mvHeld))) (.ref (by rw [M.R.len]; exact add_at (ρ := ⟨ρ1.nm, ρ.hd⟩)))
    · exact a.elim
end
end Lad
end
/-! ## LadKw -/
section
set_option maxRecDepth 100000
set_option maxHeartbeats 2000000
namespace Lad
open PySem L2
/-! ### calls and makings with keywords -/
def pick {α : Type} (is : List Nat) (l : List α) : List α := is.filterMap (l[·]?)
theorem Vals.pick {vs : List V} {us : List Value} (r : Vals vs us) (is : List Nat) : Vals (Lad.pick is vs) (Lad.pick is us) := by
  unfold Lad.pick
  induction is with
  | nil => exact .nil
  | cons i is ih =>
    rw [List.filterMap_cons, List.filterMap_cons]
    cases e : vs[i]? with
    | none =>
      have : us[i]? = none := by
        rw [List.getElem?_eq_none_iff] at e ⊢
        rw [← r.length]; exact e
      rw [this]
      exact ih
    | some v =>
      obtain ⟨u, hu, ru⟩ := r.get e
      rw [hu]
      exact .cons ru ih
theorem Reps.pick {S : Sy} {ρ : Own} {H : Hp} {vs : List V} {us : List Val} (r : Reps S ρ H us vs) (is : List Nat) : Reps S ρ H (Lad.pick is us) (Lad.pick is vs) := by
  unfold Lad.pick
  induction is with
  | nil => exact .nil
  | cons i is ih =>
    rw [List.filterMap_cons, List.filterMap_cons]
    cases e : us[i]? with
    | none =>
      have : vs[i]? = none := by
        rw [List.getElem?_eq_none_iff] at e ⊢
        rw [← r.length]; exact e
      rw [this]
      exact ih
    | some v =>
      obtain ⟨u, hu, ru⟩ := r.get e
      rw [hu]
      exact .cons ru ih
theorem kbn_of {K : PySem.W.Frag} {x qual : Str} {st : Stmt} {f : Addr} {fd : FuncData} {ps : List Str} (F : Fun K x qual st f fd) (n : Nat) (ks : List Str) (is : List Nat)
    (h : ∀ (kV doc pm : Value) (an : Option Addr) (cdv ct : Value) (us ws : List Value), us.length = n → ws.length = ks.length → bindArgs (PySem.W.fnOf x qual (defArgs st) (defBody st) (defScope st) .none kV doc pm an cdv ct) ⟨us, ks.zip ws⟩ = pure (ps.zip (pick is (us ++ ws)))) :
    KBn K fd ps n ks (fun us ws => pick is (us ++ ws)) (fun vs zs => pick is (vs ++ zs)) := by
  obtain ⟨oc, od, kV, doc, pm, an, cdv, ct, osl, rfl, lk, hcd⟩ := F.ex
  exact ⟨fun s us ws _ l1 l2 => .of_eq (h kV doc pm an cdv ct us ws l1 l2), fun r1 r2 => Vals.pick (r1.append r2) is⟩
section
variable {X : Cx} {CX : CXT} {k n : Nat} {f C : Addr} {fd : FuncData} {ps ks : List Str} {sp : Sp} {E : St → XK} {x : Str} {p pos : Pos} {e : Expr} {es : List Expr} {kws : List Keyword} {t tk : TA} {g : List Value → List Value → List Value} {gV : List V → List V → List V}
def tMkKS (C : Addr) (n m : Nat) (sp : Sp) (gV : List V → List V → List V) (E : St → XK) (t tk : TA) : TE := fun σ H Q => t σ H fun vs H1 => tk σ H1 fun zs H2 => vs.length = n ∧ zs.length = m ∧ ∀ x dx, H2 x = none → H2 dx = none → dx ≠ x →
  sp (gV (.ref x :: vs) zs) (upd (upd H2 dx (.own x)) x (.ins C dx [])) (fun v H3 => v = .non ∧ Q (.ref x) H3) (E σ)
theorem run_mkKS {pins : List (Addr × Obj)} {σ : St} {H : Hp} {s : Shared} {Q : VK} {us ws : List Value} {vs zs : List V} (M : Mk X.K C f) (F : FnOk X.prog X.w X.K X.mg X.base CX k f fd ps sp) (hr : Room (k + 1) X.A) (hb : KBn X.K fd ps (n + 1) ks g gV) (hx : PassesAt CX X σ (E σ))
    (I : Inv X pins σ H s) (r : Vals vs us) (rz : Vals zs ws) (l1 : vs.length = n) (l2 : zs.length = ks.length)
    (w : ∀ x dx, H x = none → H dx = none → dx ≠ x → sp (gV (.ref x :: vs) zs) (upd (upd H dx (.own x)) x (.ins C dx [])) (fun v H2 => v = .non ∧ Q (.ref x) H2) (E σ)) :
    wpAny (model X.prog X.w) X.A (call (.ref C) us (ks.zip ws)) (EP X pins σ Q) X.xe s := by
  have at0 := I.hok.fresh (Nat.le_refl s.heap.objs.size)
  have at1 := I.hok.fresh (Nat.le_succ s.heap.objs.size)
  have w1 := w (s.heap.objs.size + 1) s.heap.objs.size at1 at0 (Nat.ne_of_lt (Nat.lt_succ_self _))
  have J := Inv.made (C := C) I
  have rs : Vals (V.ref (s.heap.objs.size + 1) :: vs) (Value.ref (s.heap.objs.size + 1) :: us) := .cons rfl r
  have n1 : (Value.ref (s.heap.objs.size + 1) :: us).length = n + 1 := by rw [List.length_cons, ← r.length, l1]
  have bind := hb.to _ (Value.ref (s.heap.objs.size + 1) :: us) ws J.kIn n1 (rz.length.symm.trans l2)
  have body := F.run _ X.stack _ _ ⟨Value.ref (s.heap.objs.size + 1) :: us, ks.zip ws⟩ (g (Value.ref (s.heap.objs.size + 1) :: us) ws) _ _ (E σ) (hr.make C us (ks.zip ws)) (J.env0.make C us (ks.zip ws)) bind (hb.rel rs rz) w1
  apply wpAny_call
  refine make_map (f := f) I.kIn M.makes M.init (beq_iff_eq.mp M.fn) (codeAny_mono body ?_)
  intro res s' back
  match res, back with
  | .error er, back => exact hx pins _ _ er s' J back
  | .ok (.ret u), back =>
    obtain ⟨v, H', I3, rv, ev, w3⟩ := J.after back
    subst ev
    exact ⟨rv, V.ref (s.heap.objs.size + 1), H', I3, rfl, w3⟩
  | .ok .next, back => exact False.elim back
  | .ok .brk, back => exact False.elim back
  | .ok .cont, back => exact False.elim back
theorem pe_mkKS (M : Mk X.K C f) (F : FnOk X.prog X.w X.K X.mg X.base CX k f fd ps sp) (hr : Room (k + 1) X.A) (hg : Gl X x) (hm : X.mg x = some (.ref C)) (hb : KBn X.K fd ps (n + 1) ks g gV) (hx : ∀ σ, PassesAt CX X σ (E σ)) (ha : PA X (e :: es) t) (hkw : PK X kws tk)
    (hall : (backToKw pos (keywordEach kws X.env)).all (·.1.isSome) = true := by rfl) (hks : (backToKw pos (keywordEach kws X.env)).filterMap (·.1) = ks := by rfl) (hdb : (x == ("__debug__" : Str)) = false := by decide)
    (he : starEach (e :: es) X.env = (false, eval e X.env) :: starEach es X.env := by rfl) (hpl : ((backTo pos (starEach (e :: es) X.env)).any (·.1) || (backToKw pos (keywordEach kws X.env)).any (·.1.isNone)) = false := by rfl) :
    PE X (.Call (.Name x p) (e :: es) kws pos) (tMkKS C n ks.length sp gV E t tk) := by
  refine ⟨?_⟩
  intro pins s σ H Q I hw
  refine wpAny_Call_Name_kw (ld_glob I hg hm ?_ hdb)
  have given := ha.run pos pins s σ H _ I hw
  refine PySem.W.callWith_KW (h₀ := X.base) I.ok.mod.kin M.kp hall (thn given ?_) hpl he
  rintro us s1 ⟨vs, H1, I1, r, q⟩
  have named := hkw.run pos pins s1 σ H1 _ I1 q
  refine thn named ?_
  rintro ws s2 ⟨zs, H2, I2, rz, l1, l2, q2⟩
  refine ⟨I2.kIn, ?_⟩
  rw [hks]
  exact run_mkKS M F hr hb (hx σ) I2 r rz l1 l2 q2
end
/-- the values of keywords -/
abbrev SK (T : Tb) (X : Cx) (W : WX) (kws : List Keyword) (f : En → Hea → Res (List Val)) : Prop := PK X kws (tA (sy T X) W f)
def eMakeKwG (fn : Hea → Val → Hea → Res Val) (is : List Nat) (n m c : Nat) (cf : List Val → Hea → Res Val) (g gk : En → Hea → Res (List Val)) : En → Hea → Res Val := fun e h => (g e h).bind fun ds h1 => (gk e h1).bind fun zs h2 =>
  if ds.length = n ∧ zs.length = m then mkEnd fn h2 (cf (pick is (.ref h2.length :: (ds ++ zs))) (h2 ++ [.ins c []])) else .stuck
abbrev eMakeKw := eMakeKwG fin
abbrev eMakeKwK := eMakeKwG finK
section
variable {T : Tb} {X : Cx} {W : WX} {x : Str} {f : Addr} {fd : FuncData} {ps ks : List Str} {k c n : Nat} {cf : List Val → Hea → Res Val} {e : Expr} {es : List Expr} {kws : List Keyword} {g gk : En → Hea → Res (List Val)} {fe : En → Hea → Res Val} {p pos kpos : Pos} {nm : Option Str} {is : List Nat} {gg : List Value → List Value → List Value}
theorem _root_.L2.PK.imp {t t' : TA} (p : PK X kws t) (h : ∀ σ H Q, t' σ H Q → t σ H Q) : PK X kws t' := ⟨fun pos pins s σ H Q I q => p.run pos pins s σ H Q I (h σ H Q q)⟩
theorem sk_nil : SK T X W [] aNil := pk_nil.imp fun σ H Q q => by
  obtain ⟨ρ, e, h, R, E, a⟩ := q
  exact a ρ [] H .rfl R .nil
theorem sk_cons (ha : SE T X W e fe) (hr : SK T X W kws gk) : SK T X W (⟨nm, e, kpos⟩ :: kws) (aCons fe gk) := (pk_cons ha hr).imp fun σ H Q q => by
  obtain ⟨ρ, e, h, R, E, a⟩ := q
  refine ⟨ρ, e, h, R, E, (AftA.bind1 a).mono fun v H1 ⟨ρ1, d, h1, s, R1, r, a1⟩ => ⟨ρ1, e, h1, R1, E.go s, (AftA.bind2 a1).mono fun vs H2 ⟨ρ2, ds, h2, s2, R2, r2, a2⟩ => ?_⟩⟩
  exact a2 ρ2 (v :: vs) H2 .rfl R2 (.cons (r.go s2) r2)
theorem se_makeKw {fn : Hea → Val → Hea → Res Val} (fo : FinOk fn) (hm : X.mg x = some (.ref (T.ca c))) (M : Mk X.K (T.ca c) f) (F : FnOk X.prog X.w X.K X.mg X.base (L2.CX X.prog X.w) k f fd ps (spEv (sy T X) cf)) (hr : Room (k + 1) X.A)
    (hb : KBn X.K fd ps (n + 1) ks gg (fun vs zs => pick is (vs ++ zs))) (tk : Takes X W) (ha : SA T X W (e :: es) g) (hkw : SK T X W kws gk) (hg : Gl X x := by rfl)
    (hall : (backToKw pos (keywordEach kws X.env)).all (·.1.isSome) = true := by rfl) (hks : (backToKw pos (keywordEach kws X.env)).filterMap (·.1) = ks := by rfl) (hdb : (x == ("__debug__" : Str)) = false := by decide)
    (he : starEach (e :: es) X.env = (false, eval e X.env) :: starEach es X.env := by rfl) (hpl : ((backTo pos (starEach (e :: es) X.env)).any (·.1) || (backToKw pos (keywordEach kws X.env)).any (·.1.isNone)) = false := by rfl) :
    SE T X W (.Call (.Name x p) (e :: es) kws pos) (eMakeKwG fn is n ks.length c cf g gk) :=
  (pe_mkKS (E := WE W) M F hr hg hm hb (fun σ => passAt tk σ) ha hkw hall hks hdb he hpl).imp fun σ H Q q => by
    obtain ⟨ρ, e, h, R, E, a⟩ := q
    unfold eMakeKwG at a
    refine ⟨ρ, e, h, R, E, (AftA.bind a).mono fun us H0 ⟨ρ0, ds, h0, s0, R0, r0, a0⟩ => ⟨ρ0, e, h0, R0, E.go s0, (AftA.bind a0).mono fun zs H1 ⟨ρ1, dz, h1, s, R1, r1, a1⟩ => ?_⟩⟩
    split at a1
    · rename_i hl
      refine ⟨(r0.length).symm.trans hl.1, r1.length.symm.trans hl.2, ?_⟩
      intro y dx ny ndx hne
      have g1 : Go (sy T X) ρ1 H1 ρ1 (upd H1 dx (.own y)) := .side ndx
      have R2 : Rel (sy T X) ρ1 h1 (upd H1 dx (.own y)) := R1.side ndx
      have ny2 : upd H1 dx (.own y) y = none := by rw [upd_ne (Ne.symm hne)]; exact ny
      have g2 : Go (sy T X) ρ1 (upd H1 dx (.own y)) (ρ1.add y) (upd (upd H1 dx (.own y)) y (.ins (T.ca c) dx [])) := .new ny2
      have R3 : Rel (sy T X) (ρ1.add y) (h1 ++ [.ins c []]) (upd (upd H1 dx (.own y)) y (.ins (T.ca c) dx [])) := R2.new ny2 (.ins upd_same .nil)
      have ey : (ρ1.add y).nm[h1.length]? = some y := by rw [R1.len]; exact add_at
      have rr : Reps (sy T X) (ρ1.add y) (upd (upd H1 dx (.own y)) y (.ins (T.ca c) dx [])) (.ref h1.length :: (ds ++ dz)) (.ref y :: us ++ zs) := .cons (.ref ey) (((r0.go s).app r1).go (g1.trans g2))
      exact ⟨ρ1.add y, h1 ++ [.ins c []], _, R3, rr.pick is, mkEnd_aft fo R1 (g1.trans g2) ey a1⟩
    · exact a1.elim
end
end Lad
end
/-! ## LadPut -/
section
set_option maxRecDepth 100000
set_option maxHeartbeats 2000000
namespace Lad
open PySem L2
/-! ### o[i], p[j], .. = a tuple -/
def setAny (h : Hea) (o i v : Val) : Option Hea := match setIx h o i v with
  | some h' => some h'
  | none => setD h o i v
def tSetS (S : Sy) : TSet := fun o i v H K => ∃ ρ h od id vd h', Rel S ρ h H ∧ Rep S ρ H od o ∧ Rep S ρ H id i ∧ Rep S ρ H vd v ∧ setAny h od id vd = some h' ∧ ∀ ρ' H', Go S ρ H ρ' H' → Rel S ρ' h' H' → K H'
section
variable {T : Tb} {X : Cx} {W : WX}
theorem setIx_inv {h h' : Hea} {o i v : Val} (e : setIx h o i v = some h') : ∃ p k xs j, o = .ref p ∧ i = .int k ∧ h[p]? = some (.lst xs) ∧ ixN xs.length k = some j ∧ h' = h.set p (.lst (xs.set j v)) := by
  unfold setIx at e
  split at e
  · split at e
    · rename_i p k xs hx
      split at e
      · rename_i j hj
        cases e
        exact ⟨_, _, _, _, rfl, rfl, hx, hj, rfl⟩
      · cases e
    · cases e
  · cases e
theorem set_any (hu : X.A.units + 1 < cLine) : PSet X (tSetS (sy T X)) := by
  intro pins s σ H o i v ov iv u Q I ro ri rv q
  obtain ⟨ρ, h, od, id, vd, h', R, r1, r2, r3, e, k⟩ := q
  unfold setAny at e
  split at e
  · rename_i h2 e2
    cases e
    obtain ⟨p, n, xs, j, rfl, rfl, hx, hj, rfl⟩ := setIx_inv e2
    obtain ⟨a, rfl, ep⟩ := r1.ref_
    obtain rfl := r2.int_
    have ob := R.ob _ _ _ hx ep
    cases ob with
    | @lst _ vs _ hl hr =>
      refine set_list pins s σ H _ _ v ov iv u Q I ro ri rv ⟨a, _, _, j, rfl, rfl, hl, by rw [← hr.length]; exact hj, ?_⟩
      have m : Mv (sy T X) ρ H ρ (upd H a (.lst (List.set vs j v))) := .put ep hl True.intro
      exact k ρ _ (.put ep hl True.intro) (R.put (o := .lst (List.set vs j v)) (ob := .lst (xs.set j vd)) ep hl True.intro (.lst upd_same ((hr.set r3 j).mono m)))
  · obtain ⟨i', key, kvs, rfl, ek, hx, hl, rfl⟩ := setD_inv e
    obtain ⟨p, rfl, ep⟩ := r1.ref_
    have ob := R.ob _ _ _ hx ep
    cases ob with
    | @dcK _ ps _ hp kv =>
      obtain rfl := toKey_ok ek
      obtain rfl := kvK_rep r2
      obtain rfl : ov = Value.ref p := ro
      have m : Mv (sy T X) ρ H ρ (upd H p (.dK (putK ps key v))) := .put ep hp True.intro
      have R4 := R.put (o := .dK (putK ps key v)) (ob := .dcK (putKv (kvK key) vd kvs)) ep hp True.intro (.dcK upd_same ((kv.put r3).mono m))
      exact d_setItem hu I (DPut.k hp (by rw [sizeLine_eq, ← kv.length]; exact hl)) ri rv fun s' I' => ⟨_, I', k ρ _ (.put ep hp True.intro) R4⟩
def putAll : List FF → List Val → En → Hea → Res Val
  | [], [], _, h => .ok .non h
  | p :: r, v :: vs, e, h => (p.1 e h).bind fun o h1 => (p.2 e h1).bind fun i h2 => match setAny h2 o i v with
    | some h3 => putAll r vs e h3
    | none => .stuck
  | _, _, _, _ => .stuck
def sPutT (fs : List FF) (f : En → Hea → Res Val) : En → Hea → SRes := fun e h => ofR ((f e h).bind fun d h1 => match d with
  | .tup ds => if ds.length = fs.length then putAll fs ds e h1 else .stuck
  | _ => .stuck) e fun _ h2 => .nx e h2
def gsSubs (S : Sy) (W : WX) : List FF → TGs
  | [] => gNil
  | p :: r => gCons (gSub (tE S W p.1) (tE S W p.2) (tSetS S)) (gsSubs S W r)
theorem putAll_ok {e : En} {σ : St} {Q : Hp → Prop} : ∀ (fs : List FF) {ds : List Val} {vs : List V} {h : Hea} {ρ : Own} {H : Hp}, Rel (sy T X) ρ h H → ER (sy T X) ρ H e σ → Reps (sy T X) ρ H ds vs → Aft (sy T X) ρ H (putAll fs ds e h) (fun _ H' => Q H') (fun c d H' => W c d σ H') →
    gsSubs (sy T X) W fs vs σ H (fun σ' H' => σ' = σ ∧ Q H')
  | [], [], [], h, ρ, H, R, E, .nil, a => ⟨rfl, rfl, a ρ .non H .rfl R .non⟩
  | [], d :: ds, v :: vs, h, ρ, H, R, E, .cons _ _, a => a.elim
  | p :: fs, [], [], h, ρ, H, R, E, .nil, a => a.elim
  | p :: fs, d :: ds, v :: vs, h, ρ, H, R, E, .cons r t, a => by
    unfold putAll at a
    refine ⟨v, vs, rfl, ρ, e, h, R, E, a.bind.mono fun ov H1 ⟨ρ1, od, h1, s1, R1, r1, a1⟩ => ⟨ρ1, e, h1, R1, E.go s1, a1.bind.mono fun iv H2 ⟨ρ2, id, h2, s2, R2, r2, a2⟩ => ?_⟩⟩
    split at a2
    · rename_i h3 e3
      refine ⟨ρ2, h2, od, id, d, h3, R2, r1.go s2, r2, (r.go s1).go s2, e3, fun ρ3 H3 s3 R3 => ?_⟩
      exact putAll_ok fs R3 (((E.go s1).go s2).go s3) (((t.go s1).go s2).go s3) (a2.later s3)
    · exact a2.elim
theorem st_putT {a : Expr} {f : En → Hea → Res Val} {es : List Expr} {fs : List FF} {kt : Nat} {tp pos : Pos} (hc : X.calm = true) (hg : PGs X es (gsSubs (sy T X) W fs)) (ha : SE T X W a f)
    (hn : (assignEach es X.env).length = fs.length := by rfl) (hst : (assignEach es X.env).findIdx? (·.1) = none := by rfl)
    (hs : swapsWithSole [.Tuple es kt tp] a pos.line X.env = pure false := by rfl) (hw : swappedStores [.Tuple es kt tp] a X.env = pure none := by rfl)
    (h1 : (assignEach [.Tuple es kt tp] X.env).map (·.2) = [assign (.Tuple es kt tp) X.env] := by rfl) : SSt T X W (.Assign [.Tuple es kt tp] a pos) (sPutT fs f) :=
  (ps_asg ha (pg_tup hc hg hn hst) hs hw h1).imp fun D σ H q => by
    obtain ⟨ρ, e, h, R, E, a⟩ := q
    unfold sPutT at a
    have a := (AftS.ofR a E).bind
    refine ⟨ρ, e, h, R, E, a.mono fun v H1 ⟨ρ1, d, h1, s, R1, r1, a1⟩ => ?_⟩
    split at a1
    · split at a1
      · rename_i hl
        obtain ⟨p, us, rfl, sq, rr⟩ := r1.tup_
        refine ⟨p, us, rfl, sq, by rw [← rr.length]; exact hl, ?_⟩
        have b := putAll_ok (Q := fun H' => D.nx σ H') (W := W) fs R1 (E.go s) rr (a1.mono fun v H' ⟨ρ5, d5, h5, s5, R5, r5, E5, a5⟩ => a5 ρ5 σ _ .rfl R5 E5)
        revert b
        generalize hQ : (fun (σ' : St) (H' : Hp) => σ' = σ ∧ D.nx σ H') = Q'
        intro b
        have key : ∀ (fs : List FF) (us : List V) (τ : St) (H : Hp) (A B : St → Hp → Prop), (∀ σ' H', A σ' H' → B σ' H') → gsSubs (sy T X) W fs us τ H A → gsSubs (sy T X) W fs us τ H B := by
          intro fs
          induction fs with
          | nil => intro us τ H A B hAB ⟨e, q⟩; exact ⟨e, hAB _ _ q⟩
          | cons p fs ih =>
            intro us τ H A B hAB ⟨v, vs, e, ρ, en, h, R, E, a⟩
            refine ⟨v, vs, e, ρ, en, h, R, E, a.mono fun ov H1 ⟨ρ1, en1, h1, R1, E1, a1⟩ => ⟨ρ1, en1, h1, R1, E1, a1.mono fun iv H2 q => ?_⟩⟩
            obtain ⟨ρ, h, od, id, vd, h', R, r1, r2, r3, e, k⟩ := q
            exact ⟨ρ, h, od, id, vd, h', R, r1, r2, r3, e, fun ρ' H' g R' => ih _ _ _ _ _ hAB (k ρ' H' g R')⟩
        refine key fs us σ H1 Q' D.nx (fun σ' H' q => ?_) b
        rw [← hQ] at q
        obtain ⟨rfl, q⟩ := q
        exact q
      · exact a1.elim
    · exact a1.elim
end
end Lad
end
/-! ## LadTryM -/
section
set_option maxRecDepth 100000
set_option maxHeartbeats 2000000
namespace Lad
open PySem L2 PySem.Spec PyProof.Rows
/-! ### try: body; several clauses `except x as n`, n at slot i -/
abbrev TSu := Addr → Value → Option Addr → TS
/-- the ends with n gone -/
def Ends.less (i : Nat) (D : Ends) : Ends := ⟨fun τ G => D.nx (τ.set i none) G, D.rt, fun τ G => D.bk (τ.set i none) G, fun τ G => D.ct (τ.set i none) G⟩
def wAsM (K : PySem.W.Frag) (i : Nat) (Wo : WX) (D : Ends) : List (Value × TSu) → WX
  | [] => Wo
  | q :: r => fun cl dd τ G => ∃ y, PySem.W.exmOne K cl q.1 = some y ∧ (y = true → ∀ b, G b = none → q.2 b cl dd (Ends.less i D) (τ.set i (some (.ref b))) G) ∧ (y = false → wAsM K i Wo D r cl dd τ G)
inductive Clauses (X : Cx) (n : Str) : List ExceptHandler → List (Value × TSu) → Prop
  | nil : Clauses X n [] []
  | cons {x : Str} {cv : Value} {ts : TSu} {s0 : Stmt} {ss : List Stmt} {p1 p2 : Pos} {hl : List ExceptHandler} {l : List (Value × TSu)} (nc : Names X x cv)
      (su : ∀ (b : Addr) (ob : Obj) (cl : Value) (dd : Option Addr) (pn : List (Addr × Obj)), Zc cl dd ob → (∃ vs, ob.data = .fields vs) → PSs (X.suite b ((b, ob) :: pn)) (s0 :: ss) (ts b cl dd)) (r : Clauses X n hl l) :
      Clauses X n (.ExceptHandler (some (.Name x p1)) (some n) (s0 :: ss) p2 :: hl) ((cv, ts) :: l)
section
variable {X : Cx} {n : Str} {i : Nat} {body : List Stmt} {c0 : ExceptHandler} {cs : List ExceptHandler} {l : List (Value × TSu)} {pos : Pos} {tb : WX → TS} {Wo : WX}
theorem ps_try_asM (hst : X.stack = X.env :: X.outer) (hfm : X.env.frame = some X.env.locals) (nd : X.N.Nodup) (ni : X.N[i]? = some n) (lc : X.env.kindOf n = some .local) (tk : Takes X Wo)
    (bd : ∀ (W : WX) (pn : List (Addr × Obj)) (xe : Value → Shared → Prop), Takes (X.tr pn xe) W → PassesOwn (model X.prog X.w) X.A X.env xe → PSs (X.tr pn xe) body (tb W))
    (hcl : Clauses X n (c0 :: cs) l) : PS X (.Try body (c0 :: cs) [] [] pos) (fun D τ G => tb (wAsM X.K i Wo D l) D τ G) := by
  refine ⟨fun ps s τ G D Iv w0 => ?_⟩
  have okX := Iv.ok
  have fr : X.A.frames = some (X.env :: X.outer) := by rw [okX.frames, hst]
  have lcn : Loc X.env.scope n := Or.inl lc
  apply wpAny_Try_except
  refine wpAny_mono ((bd (wAsM X.K i Wo D l) (X.pn ++ ps) (fun e t1 => wpAny (model X.prog X.w) X.A (noteFrame e X.env) (fun _ t2 => wpAny (model X.prog X.w) X.A (setFlight e none)
    (fun _ t3 => wpAny (model X.prog X.w) X.A (handleBy e X.env (c0 :: cs)) (SP X ps D) X.xe t3) X.xe t2) X.xe t1) ?ct0 PassesOwn.looking).run [] s τ G D (Iv.toTry _) w0) ?af0 (fun _ _ q => q)
  case af0 =>
    intro f t1 q
    cases f with
    | next => exact let ⟨τ', G', J, q⟩ := q; wpAny_execs_nil ⟨τ', G', J.ofTry okX, q⟩
    | brk => exact let ⟨τ', G', J, q⟩ := q; ⟨τ', G', J.ofTry okX, q⟩
    | cont => exact let ⟨τ', G', J, q⟩ := q; ⟨τ', G', J.ofTry okX, q⟩
    | ret u => exact let ⟨v, τ', G', J, r, q⟩ := q; ⟨v, τ', G', J.ofTry okX, r, q⟩
  case ct0 =>
    intro u t ⟨b, B, sI, ps', τ', G', cl, dd, eu, J', nb, up, sky, nG, os, ag, w⟩
    subst eu
    have J : Inv X ps τ' G' sI := J'.ofTry okX
    have sky2 : Sky B (X.env :: X.outer) b (Zc cl dd) X.env.locals t.heap := by rw [← hst]; exact sky
    refine Sky.land (Zc.steady) fr hfm sky2 fun k3 f3 up3 => ?_
    have J3 : Inv X ps τ' G' { t with heap := k3 } := J.landed nb f3.1 (up.trans up3) os ag
    obtain ⟨o3, v3, at3, z3, d3⟩ := f3.there
    have off : b ∉ frs (X.env :: X.outer) := by
      intro hm
      obtain ⟨_, o', e', nf⟩ := f3.2.2.1.mem hm
      rw [at3] at e'
      cases e'
      exact nf _ d3
    have offL : b ≠ X.env.locals := by
      intro z
      exact off (List.mem_filterMap.mpr ⟨X.env, .head _, by rw [hfm, z]⟩)
    have offF : b ∉ X.fs := by
      intro hm
      obtain ⟨e, he, q⟩ := List.mem_filterMap.mp hm
      exact off (List.mem_filterMap.mpr ⟨e, .tail _ he, q⟩)
    have S3 := J3.suite at3 d3 nG offL offF
    have each : ∀ {hl : List ExceptHandler} {l' : List (Value × TSu)}, Clauses X n hl l' → wAsM X.K i Wo D l' cl dd τ' G' → wpAny (model X.prog X.w) X.A (handleBy (.ref b) X.env hl) (SP X ps D) X.xe { t with heap := k3 } := by
      intro hl l' q
      induction q with
      | nil =>
        intro w
        apply wpAny_handleBy_nil
        obtain ⟨_, _, _, oe, vs, Tb, oT, ts', he, hz, hd, h1, hr⟩ := id f3
        unfold PySem.passOn
        apply wpAny_bind
        refine wpAny_field he hd h1 ?_
        have nn : ¬ ((Value.ref Tb == Value.none) = true) := by simp
        rw [if_neg nn]
        have last : wpAny (model X.prog X.w) X.A (setFlight (.ref b) X.env.frame) (fun _ t4 => wpAny (model X.prog X.w) X.A (throw (.ref b) : Sem Flow) (SP X ps D) X.xe t4) X.xe { t with heap := k3 } := by
          rw [hfm]
          refine HandSPX.setFlight_upZ f3 fun k4 hk4 up4 => wpAny_throw (tk _ _ ?_)
          refine ⟨b, B, sI, ps, τ', G', cl, dd, rfl, J, nb, (up.trans up3).trans up4, Or.inr (Or.inr ?_), nG, os, ag, w⟩
          rw [hst]; exact hk4
        first
          | exact wpAny_bind (wpAny_pure (wpAny_bind last))
          | exact wpAny_bind last
      | @cons x cv ts s0 ss p1 p2 hl2 l2 nc su r ih =>
        intro ⟨y, hy, yes, no⟩
        refine wpAny_handleBy_cons (codeAny_handlers_test ?_) (fun q => nomatch q)
        have LT : PySem.W.Looks (model X.prog X.w) k3 (typeOf (.ref b)) cl := fun _ _ _ _ k q => wpAny_typeOf_ref (k _ _ at3) (by rw [z3.1]; exact q)
        have LM := PySem.W.exm_one (M := model X.prog X.w) J3.kIn LT hy
        have tst : ∀ {Q : Value → Shared → Prop} {E : Value → Shared → Prop}, Q cv { t with heap := k3 } → wpAny (model X.prog X.w) (X.A.mark (some (.ref b))) (eval (.Name x p1) X.env) Q E { t with heap := k3 } := by
          intro Q E q
          obtain ⟨g1, g2, g3⟩ := nc
          rcases g3 with g3 | ⟨g3, g4, g5⟩
          · exact ld_glob (X := X.suite b ((b, o3) :: (X.pn ++ ps))) S3 g1 g3 q g2
          · exact ld_blt (X := X.suite b ((b, o3) :: (X.pn ++ ps))) S3 g1 g3 g4 q g5 g2
        refine tst (LM.here ?_)
        cases y with
        | false => exact ih (no rfl)
        | true =>
          apply codeAny_handlers_suite_as
          refine HandSPX.lands_againZ f3 fun k4 f4 up4 => ?_
          have J4 : Inv X ps τ' G' { t with heap := k4 } := J.landed nb f4.1 ((up.trans up3).trans up4) os ag
          obtain ⟨o4, v4, at4, z4, d4⟩ := f4.there
          have S4 := J4.suite at4 d4 nG offL offF
          refine store_ok (X := X.suite b ((b, o4) :: (X.pn ++ ps))) (v := .ref b) S4 nd ni lcn rfl (fun t5 S5 => ?_) (Or.inr lc)
          refine wpAny_mono ((su b o4 cl dd (X.pn ++ ps) z4 ⟨_, d4⟩).run [] t5 _ G' _ S5 (yes rfl b nG)) (fun f t6 q => ?_) (fun _ _ z => z.elim)
          have fine : ∀ {τ6 : L2.St} {G6 : Hp} {Q : Shared → Prop}, Inv (X.suite b ((b, o4) :: (X.pn ++ ps))) [] τ6 G6 t6 → (∀ t7, Inv X ps (τ6.set i none) G6 t7 → Q t7) →
              wpAny (model X.prog X.w) X.A (do bindName X.env n .none; unbindBehindTheSuite X.env n p2) (fun _ t7 => Q t7) X.xe t6 := fun S6 k => gone_ok (S6.unsuite okX) nd ni lc k
          cases f with
          | next => obtain ⟨τ6, G6, S6, q6⟩ := q; exact fine S6 fun t7 J7 => ⟨_, _, J7, q6⟩
          | brk => obtain ⟨τ6, G6, S6, q6⟩ := q; exact fine S6 fun t7 J7 => ⟨_, _, J7, q6⟩
          | cont => obtain ⟨τ6, G6, S6, q6⟩ := q; exact fine S6 fun t7 J7 => ⟨_, _, J7, q6⟩
          | ret u => obtain ⟨v6, τ6, G6, S6, r6, q6⟩ := q; exact fine S6 fun t7 J7 => ⟨_, _, _, J7, r6, q6⟩
    exact each hcl w
end
/-! the evaluator: the first clause whose class fits -/
def sTryM (cl : List ((Nat → Option Bool) × (En → Hea → SRes))) (i : Nat) (fb : En → Hea → SRes) : En → Hea → SRes := fun e h => match fb e h with
  | .exc c d e1 h1 => tryMs cl i c d e1 h1
  | r => r
where tryMs : List ((Nat → Option Bool) × (En → Hea → SRes)) → Nat → Nat → Val → En → Hea → SRes
  | [], _, c, d, e1, h1 => .exc c d e1 h1
  | q :: r, i, c, d, e1, h1 => match q.1 c with
    | some true => suiteEnd i h1 (q.2 (e1.set i (some (.exn c d))) h1)
    | some false => tryMs r i c d e1 h1
    | none => .stuck
/-- clauses with their suites derived -/
inductive SCl (T : Tb) (X : Cx) (n : Str) : List ExceptHandler → List ((Nat → Option Bool) × (En → Hea → SRes)) → List Value → Prop
  | nil : SCl T X n [] [] []
  | cons {x : Str} {cv : Value} {sub : Nat → Option Bool} {fs : En → Hea → SRes} {s0 : Stmt} {ss : List Stmt} {p1 p2 : Pos} {hl : List ExceptHandler} {cl : List ((Nat → Option Bool) × (En → Hea → SRes))} {vs : List Value} (nc : Names X x cv)
      (hsub : ∀ c b, sub c = some b → PySem.W.exmOne X.K (.ref (T.ca c)) cv = some b)
      (su : ∀ (a : Addr) (oe : Obj) (c : Nat) (dx : Addr) (pn : List (Addr × Obj)), sub c = some true → Zc (.ref (T.ca c)) (some dx) oe → (∃ vs, oe.data = .fields vs) → SSs (T.at a c dx) (X.suite a ((a, oe) :: pn)) W0 (s0 :: ss) fs)
      (r : SCl T X n hl cl vs) : SCl T X n (.ExceptHandler (some (.Name x p1)) (some n) (s0 :: ss) p2 :: hl) ((sub, fs) :: cl) (cv :: vs)
section
variable {T : Tb} {X : Cx} {W : WX} {n : Str} {i : Nat} {body : List Stmt} {c0 : ExceptHandler} {cs : List ExceptHandler} {pos : Pos} {fb : En → Hea → SRes} {cl : List ((Nat → Option Bool) × (En → Hea → SRes))} {vs : List Value}
def suOf (T : Tb) (X : Cx) (q : (Nat → Option Bool) × (En → Hea → SRes)) : TSu := fun a cls d D σ H => ∃ c dx, q.1 c = some true ∧ cls = .ref (T.ca c) ∧ d = some dx ∧ tS (sy (T.at a c dx) X) W0 q.2 D σ H
theorem SCl.cls {hl : List ExceptHandler} (q : SCl T X n hl cl vs) : Clauses X n hl (vs.zip (cl.map (suOf T X))) := by
  induction q with
  | nil => exact .nil
  | cons nc hsub su r ih =>
    refine .cons nc (fun a oe cls d pn hz hff => ⟨fun pins s σ H D I q => ?_⟩) ih
    obtain ⟨c, dx, hsc, rfl, rfl, q⟩ := q
    exact (su a oe c dx pn hsc hz hff).run pins s σ H D I q
theorem SCl.ok {hl : List ExceptHandler} (hx : T.ex = none) (q : SCl T X n hl cl vs) {D : Ends} {c : Nat} {d : Val} {e1 : En} {h1 : Hea} {ρ : Own} {H : Hp} {v : V} {σ1 : L2.St} {dx : Addr} (R1 : Rel (sy T X) ρ h1 H) (r1 : Rep (sy T X) ρ H d v) (E1 : ER (sy T X) ρ H e1 σ1) (hdx : H dx = some (.xd [(T.fld c, v)]))
    (a : AftS (sy T X) ρ H (sTryM.tryMs cl i c d e1 h1) D W) : wAsM X.K i W D (vs.zip (cl.map (suOf T X))) (.ref (T.ca c)) (some dx) σ1 H := by
  induction q with
  | nil => exact a ρ v σ1 H dx .rfl R1 r1 E1 hdx
  | @cons x cv sub fs s0 ss p1 p2 hl cl vs nc hsub su r ih =>
    unfold sTryM.tryMs at a
    dsimp only at a
    cases hsb : sub c with
    | none => rw [hsb] at a; exact a.elim
    | some b =>
      rw [hsb] at a
      refine ⟨b, hsub c b hsb, fun hb1 ax hax => ?_, fun hb1 => ?_⟩
      · subst hb1
        refine ⟨c, dx, hsb, rfl, rfl, ρ, _, h1, R1.like like_at (R1.no hx), ?_, ends_ok (W := W) hx R1 a⟩
        exact ER.set (S := sy (T.at ax c dx) X) (Rep.exn (S := sy (T.at ax c dx) X) rfl hdx (r1.like like_at (r1.no hx))) i (E1.like like_at (E1.no hx))
      · subst hb1
        exact ih a
theorem st_tryM (hx : T.ex = none) (hs : X.stack = X.env :: X.outer) (hf : X.env.frame = some X.env.locals) (hN : X.N.Nodup) (hi : X.N[i]? = some n) (hln : X.env.kindOf n = some .local) (tk : Takes X W)
    (hb : ∀ (W : WX) (pn : List (Addr × Obj)) (xe : Value → Shared → Prop), Takes (X.tr pn xe) W → PassesOwn (model X.prog X.w) X.A X.env xe → SSs T (X.tr pn xe) W body fb)
    (hc : SCl T X n (c0 :: cs) cl vs) : SSt T X W (.Try body (c0 :: cs) [] [] pos) (sTryM cl i fb) := by
  refine PS.imp (ps_try_asM (tb := fun W' => tS (sy T X) W' fb) hs hf hN hi hln tk (fun W' pn xe tk' po => hb W' pn xe tk' po) hc.cls) fun D σ H q => ?_
  obtain ⟨ρ, e, h, R, E, a⟩ := q
  refine ⟨ρ, e, h, R, E, ?_⟩
  unfold sTryM at a
  revert a
  cases fb e h with
  | nx e1 h1 => exact id
  | rt v h1 => exact id
  | bk e1 h1 => exact id
  | ct e1 h1 => exact id
  | stuck => exact id
  | exc c d e1 h1 => exact fun a ρ1 v σ1 H1 dx s R1 r1 E1 hdx => hc.ok hx R1 r1 E1 hdx (AftS.later a s)
end
end Lad
end
/-! ## LadRg -/
section
set_option maxRecDepth 100000
set_option maxHeartbeats 2000000
namespace Lad
open PySem L2
/-! ### list(range(..)) -/
def rgL (a b : Int) : List Val := (List.range (b - a).toNat).map fun i => Val.int (a + (i : Nat))
theorem reps_rg {S : Sy} {ρ : Own} {H : Hp} (a b : Int) : Reps S ρ H (rgL a b) (rgV a b) := by
  unfold rgL rgV
  generalize List.range (b - a).toNat = l
  induction l with
  | nil => exact .nil
  | cons i l ih => exact .cons (.int _) ih
def rgOkB (a b : Int) : Bool := decide (0 ≤ a ∧ b ≤ 16777216 ∧ a ≤ 16777216 ∧ 0 ≤ b)
def lRg1 (f : En → Hea → Res Val) : En → Hea → Res (List Val) := fun e h => (f e h).bind fun d h1 => match d with
  | .int n => if rgOkB 0 n = true then .ok (rgL 0 n) h1 else .stuck
  | _ => .stuck
def lRg2 (f g : En → Hea → Res Val) : En → Hea → Res (List Val) := fun e h => (f e h).bind fun d h1 => (g e h1).bind fun b h2 => match d, b with
  | .int m, .int n => if rgOkB m n = true then .ok (rgL m n) h2 else .stuck
  | _, _ => .stuck
section
variable {T : Tb} {X : Cx} {W : WX} {a b : Expr} {f g : En → Hea → Res Val} {p pos p2 pos2 : Pos}
theorem rgOkB_ok {m n : Int} (h : rgOkB m n = true) : RgOk m n := by
  have := of_decide_eq_true h
  exact .of_le this.1 this.2.1 this.2.2.1 this.2.2.2
theorem sl_rg1 (hc : X.calm = true) (hl : X.mg "list" = none) (hr : X.mg "range" = none) (ha : SE T X W a f) (gl : Gl X "list" := by rfl) (gr : Gl X "range" := by rfl) (na : starEach [a] X.env = (false, eval a X.env) :: starEach [] X.env := by rfl)
    (nb : starEach [.Call (.Name "range" p2) [a] [] pos2] X.env = (false, eval (.Call (.Name "range" p2) [a] [] pos2) X.env) :: starEach [] X.env := by rfl) :
    SL T X W (.Call (.Name "list" p) [.Call (.Name "range" p2) [a] [] pos2] [] pos) (lRg1 f) := (pe_listRg hc gl hl (prg_1 gr hr ha na) nb).imp fun σ H Q q => by
  obtain ⟨ρ, e, h, R, E, a⟩ := q
  refine ⟨ρ, e, h, R, E, (AftL.bind1 a).mono fun v H1 ⟨ρ1, d, h1, s, R1, r1, a1⟩ => ?_⟩
  split at a1
  · split at a1
    · rename_i hk
      obtain rfl := r1.int_
      exact ⟨_, rfl, rgOkB_ok hk, fun l n => a1.made R1 (reps_rg _ _) l n⟩
    · exact a1.elim
  · exact a1.elim
theorem sl_rg2 (hc : X.calm = true) (hl : X.mg "list" = none) (hr : X.mg "range" = none) (ha : SE T X W a f) (hb : SE T X W b g) (gl : Gl X "list" := by rfl) (gr : Gl X "range" := by rfl) (na : starEach [a, b] X.env = (false, eval a X.env) :: starEach [b] X.env := by rfl)
    (nb : starEach [b] X.env = (false, eval b X.env) :: starEach [] X.env := by rfl) (hp : (backTo pos2 (starEach [b] X.env)).any (·.1) = false := by rfl)
    (nc : starEach [.Call (.Name "range" p2) [a, b] [] pos2] X.env = (false, eval (.Call (.Name "range" p2) [a, b] [] pos2) X.env) :: starEach [] X.env := by rfl) :
    SL T X W (.Call (.Name "list" p) [.Call (.Name "range" p2) [a, b] [] pos2] [] pos) (lRg2 f g) := (pe_listRg hc gl hl (prg_2 gr hr ha hb na nb hp) nc).imp fun σ H Q q => by
  obtain ⟨ρ, e, h, R, E, a⟩ := q
  refine ⟨ρ, e, h, R, E, (AftL.bind1 a).mono fun v H1 ⟨ρ1, d, h1, s, R1, r1, a1⟩ => ⟨ρ1, e, h1, R1, E.go s, (AftL.bind1 a1).mono fun u H2 ⟨ρ2, d2, h2, s2, R2, r2, a2⟩ => ?_⟩⟩
  split at a2
  · split at a2
    · rename_i hk
      obtain rfl := r1.int_
      obtain rfl := r2.int_
      exact ⟨_, _, rfl, rfl, rgOkB_ok hk, fun l n => a2.made R2 (reps_rg _ _) l n⟩
    · exact a2.elim
  · exact a2.elim
end
abbrev oeBase : List Value := [.type "OverflowError", .type "ArithmeticError", .type "Exception", .type "BaseException", .type "object"]
end Lad
end
/-! ## LadKd -/
section
set_option maxRecDepth 100000
set_option maxHeartbeats 2000000
namespace Lad
open PySem L2
/-! ### makings that leave keyword-only defaults out -/
theorem funD_of {K : PySem.W.Frag} {d : He.DefD} {x qual : Str} {st : Stmt} {kwd : List (Str × He.Dv)} (hd : d = ⟨d.at_, x, qual, defArgs st, defBody st, defScope st, [], kwd⟩) (e : He.fnW K d.at_ = d.val) (c : d.ok K = true) :
    FunD K x qual (defArgs st) (defBody st) (defScope st) [] (kwd.map fun q => (q.1, q.2.v K)) (He.fAd K d.at_) (fdOf K (He.fAd K d.at_)) := by
  obtain ⟨fd, F⟩ := He.DefD.funD e c
  have ef : fdOf K (He.fAd K d.at_) = fd := by
    obtain ⟨oc, od, dV, kV, doc, pm, an, cdv, ct, osl, rfl, lk, _⟩ := F.ex
    unfold fdOf; rw [lk]
  rw [ef]
  obtain ⟨at_, _, _, _, _, _, _, _⟩ := d
  cases hd
  exact F
theorem fun_ofD {K : PySem.W.Frag} {x qual : Str} {st : Stmt} {kws : List (Str × V)} {f : Addr} {fd : FuncData} (F : FunD K x qual (defArgs st) (defBody st) (defScope st) [] kws f fd) : Fun K x qual st f fd := by
  obtain ⟨oc, od, dV, kV, doc, pm, an, cdv, ct, osl, e, lk, hcd, hdf, _⟩ := F.ex
  have dn : dV = .none := by
    rcases hdf with ⟨_, h⟩ | ⟨h, _⟩
    · exact h
    · exact absurd rfl h
  subst dn
  exact ⟨⟨oc, od, kV, doc, pm, an, cdv, ct, osl, e, lk, hcd⟩, F.kp⟩
theorem kbn_dfl {K : PySem.W.Frag} {x qual : Str} {st : Stmt} {f : Addr} {fd : FuncData} {ps : List Str} {kws : List (Str × V)} (F : FunD K x qual (defArgs st) (defBody st) (defScope st) [] kws f fd) (n : Nat) (ks : List Str) (ms : List (Str × V)) (is : List Nat) (hk : kws ≠ []) (hms : ∀ q ∈ ms, q ∈ kws)
    (h : ∀ (D : Addr) (doc pm : Value) (an : Option Addr) (cdv ct : Value) (us mv ws : List Value), us.length = n → mv.length = ms.length → ws.length = ks.length →
      KwChain D ((ms.map (·.1)).zip mv) (bindArgs (PySem.W.fnOf x qual (defArgs st) (defBody st) (defScope st) .none (.ref D) doc pm an cdv ct) ⟨us, ks.zip ws⟩) (ps.zip (pick is (us ++ ws ++ mv)))) :
    ∃ mv : List Value, KBn K fd ps n ks (fun us ws => pick is (us ++ ws ++ mv)) (fun vs zs => pick is (vs ++ zs ++ ms.map (·.2))) :=
  F.kbinds0 n ks ms (fun us mv ws => pick is (us ++ ws ++ mv)) hk hms (fun r1 r2 r3 => Vals.pick ((r1.append r3).append r2) is) h
def eMakeKdG (fn : Hea → Val → Hea → Res Val) (is : List Nat) (dv : List Val) (n m c : Nat) (cf : List Val → Hea → Res Val) (g gk : En → Hea → Res (List Val)) : En → Hea → Res Val := fun e h => (g e h).bind fun ds h1 => (gk e h1).bind fun zs h2 =>
  if ds.length = n ∧ zs.length = m then mkEnd fn h2 (cf (pick is (.ref h2.length :: (ds ++ zs) ++ dv)) (h2 ++ [.ins c []])) else .stuck
abbrev eMakeKd := eMakeKdG fin
abbrev eMakeKdK := eMakeKdG finK
section
variable {T : Tb} {X : Cx} {W : WX} {x : Str} {f : Addr} {fd : FuncData} {ps ks : List Str} {k c n : Nat} {cf : List Val → Hea → Res Val} {e : Expr} {es : List Expr} {kws : List Keyword} {g gk : En → Hea → Res (List Val)} {p pos : Pos} {is : List Nat} {gg : List Value → List Value → List Value} {dv : List Val} {ms : List V}
theorem se_makeKd {fn : Hea → Val → Hea → Res Val} (fo : FinOk fn) (hm : X.mg x = some (.ref (T.ca c))) (M : Mk X.K (T.ca c) f) (F : FnOk X.prog X.w X.K X.mg X.base (L2.CX X.prog X.w) k f fd ps (spEv (sy T X) cf)) (hr : Room (k + 1) X.A)
    (hb : ∃ mv : List Value, KBn X.K fd ps (n + 1) ks (fun us ws => pick is (us ++ ws ++ mv)) (fun vs zs => pick is (vs ++ zs ++ ms))) (hdv : ∀ ρ H, Reps (sy T X) ρ H dv ms) (tk : Takes X W) (ha : SA T X W (e :: es) g) (hkw : SK T X W kws gk) (hg : Gl X x := by rfl)
    (hall : (backToKw pos (keywordEach kws X.env)).all (·.1.isSome) = true := by rfl) (hks : (backToKw pos (keywordEach kws X.env)).filterMap (·.1) = ks := by rfl) (hdb : (x == ("__debug__" : Str)) = false := by decide)
    (he : starEach (e :: es) X.env = (false, eval e X.env) :: starEach es X.env := by rfl) (hpl : ((backTo pos (starEach (e :: es) X.env)).any (·.1) || (backToKw pos (keywordEach kws X.env)).any (·.1.isNone)) = false := by rfl) :
    SE T X W (.Call (.Name x p) (e :: es) kws pos) (eMakeKdG fn is dv n ks.length c cf g gk) := by
  obtain ⟨mv, hb⟩ := hb
  refine (pe_mkKS (E := WE W) M F hr hg hm hb (fun σ => passAt tk σ) ha hkw hall hks hdb he hpl).imp fun σ H Q q => ?_
  obtain ⟨ρ, e, h, R, E, a⟩ := q
  unfold eMakeKdG at a
  refine ⟨ρ, e, h, R, E, (AftA.bind a).mono fun us H0 ⟨ρ0, ds, h0, s0, R0, r0, a0⟩ => ⟨ρ0, e, h0, R0, E.go s0, (AftA.bind a0).mono fun zs H1 ⟨ρ1, dz, h1, s, R1, r1, a1⟩ => ?_⟩⟩
  split at a1
  · rename_i hl
    refine ⟨(r0.length).symm.trans hl.1, r1.length.symm.trans hl.2, ?_⟩
    intro y dx ny ndx hne
    have g1 : Go (sy T X) ρ1 H1 ρ1 (upd H1 dx (.own y)) := .side ndx
    have R2 : Rel (sy T X) ρ1 h1 (upd H1 dx (.own y)) := R1.side ndx
    have ny2 : upd H1 dx (.own y) y = none := by rw [upd_ne (Ne.symm hne)]; exact ny
    have g2 : Go (sy T X) ρ1 (upd H1 dx (.own y)) (ρ1.add y) (upd (upd H1 dx (.own y)) y (.ins (T.ca c) dx [])) := .new ny2
    have R3 : Rel (sy T X) (ρ1.add y) (h1 ++ [.ins c []]) (upd (upd H1 dx (.own y)) y (.ins (T.ca c) dx [])) := R2.new ny2 (.ins upd_same .nil)
    have ey : (ρ1.add y).nm[h1.length]? = some y := by rw [R1.len]; exact add_at
    have rr : Reps (sy T X) (ρ1.add y) (upd (upd H1 dx (.own y)) y (.ins (T.ca c) dx [])) (.ref h1.length :: (ds ++ dz) ++ dv) (.ref y :: us ++ zs ++ ms) := Reps.app (.cons (.ref ey) (((r0.go s).app r1).go (g1.trans g2))) (hdv _ _)
    exact ⟨ρ1.add y, h1 ++ [.ins c []], _, R3, rr.pick is, mkEnd_aft fo R1 (g1.trans g2) ey a1⟩
  · exact a1.elim
end
end Lad
end
/-! ## LadCut -/
section
set_option maxRecDepth 100000
set_option maxHeartbeats 2000000
namespace Lad
open PySem L2
/-! ### x[lo:hi] of a tuple or of a list -/
abbrev RSl := V → Option Int → Option Int → Hp → VK → Prop
def rSlOr (r1 r2 : RSl) : RSl := fun x l u H Q => r1 x l u H Q ∨ r2 x l u H Q
theorem slr_or {X : Cx} {r1 r2 : RSl} (h1 : SlR X r1) (h2 : SlR X r2) : SlR X (rSlOr r1 r2) := by
  intro pins s σ H x v vl vu lo hi sl Q I rx hs pl pu h
  rcases h with h | h
  · exact h1 pins s σ H x v vl vu lo hi sl Q I rx hs pl pu h
  · exact h2 pins s σ H x v vl vu lo hi sl Q I rx hs pl pu h
def eCutA (f : En → Hea → Res Val) (lo hi : Option (En → Hea → Res Val)) : En → Hea → Res Val := fun e h => (f e h).bind fun d h1 => (eOpt lo e h1).bind fun l h2 => (eOpt hi e h2).bind fun u h3 => match d with
  | .tup xs => .ok (.tup (cutL xs l u)) h3
  | d => match lstOf h3 d with
    | some xs => .ok (.lst (cutL xs l u)) h3
    | none => .stuck
theorem Aft.lst {S : Sy} {H : Hp} {ρ : Own} {h : Hea} {xs : List Val} {vs : List V} {Q : VK} {W : XK} (a : Aft S ρ H (.ok (.lst xs) h) Q W) (R : Rel S ρ h H) (r : Reps S ρ H xs vs) (p : Addr) (n : H p = none) : Q (.ref p) (upd H p (.lst vs)) :=
  a ρ (.ref p) _ (.side n) (R.side n) (.lst (R.fz n) upd_same (r.mono (.side n)))
section
variable {T : Tb} {X : Cx} {W : WX} {a : Expr} {lo hi : Option Expr} {f : En → Hea → Res Val} {l u : Option (En → Hea → Res Val)} {p2 pos : Pos}
theorem se_cutA (ha : SE T X W a f) (hl : PO X lo (tO (sy T X) W l)) (hu : PO X hi (tO (sy T X) W u)) : SE T X W (.Subscript a (.Slice lo hi none p2) pos) (eCutA f l u) :=
  (pe_slice (slr_or L2.sl_tupA L2.sl_list) ha hl hu).imp fun σ H Q q => by
    obtain ⟨ρ, e, h, R, E, a⟩ := q
    unfold eCutA at a
    refine ⟨ρ, e, h, R, E, a.bind.mono fun v H1 ⟨ρ1, d, h1, s, R1, r1, a1⟩ => ⟨ρ1, e, h1, R1, E.go s, (AftO.bind a1).mono fun lv H2 ⟨ρ2, h2, s2, R2, a2⟩ => ⟨ρ2, e, h2, R2, (E.go s).go s2, (AftO.bind a2).mono fun uv H3 ⟨ρ3, h3, s3, R3, a3⟩ => ?_⟩⟩⟩
    have r3 := (r1.go s2).go s3
    split at a3
    · rename_i xs
      cases r3 with
      | tup ht hr =>
        refine .inl ⟨_, _, rfl, ht, fun hw => ?_, fun hw p n => ?_⟩
        · rw [← hr.length] at hw
          rw [cutL_whole hw] at a3
          exact a3.same R3 (.tup ht hr)
        · exact a3.tup R3 (hr.slc lv uv) p n
    · split at a3
      · rename_i xs hx
        obtain ⟨p, vs, ev, sq, rr⟩ := R3.lstV r3 hx
        exact .inr ⟨p, vs, ev, sq, fun l n => a3.lst R3 (rr.slc lv uv) l n⟩
      · exact a3.elim
end
end Lad
end
/-! ## LadZd -/
section
set_option maxRecDepth 100000
set_option maxHeartbeats 2000000
namespace Lad
open PySem
/-! ### dict(zip(s, t)) of two tuples -/
/-- a zip of two tuples, k pairs told; the last one told is still there -/
structure Zt (z TI TO i1 i2 l1 l2 d : Addr) (xs ys : Array Value) (k : Nat) (h : Heap) : Prop where
  its : IsPair h TI (.ref i1) (.ref i2)
  one : h.IsTupleIter i1 l1 k
  two : h.IsTupleIter i2 l2 k
  tup1 : h.IsTuple l1 xs
  tup2 : h.IsTuple l2 ys
  self : (IsZip h z TI TO .none ∧ ∃ a b, IsPair h TO a b) ∨ ∃ T f oT, IsZipHeld h z TI TO T f ∧ h.get? T = some oT ∧ T ≠ z ∧ T ≠ i1 ∧ T ≠ i2 ∧ T ≠ d
section
variable {prog : Program} {w : World} {A : Around} {E : Value → Shared → Prop} {s : Shared} {z TI TO i1 i2 l1 l2 d : Addr} {xs ys : Array Value} {k : Nat}
theorem zt_held {T : Addr} {f : Bool} {oT : Obj} {x y : Value} {Q : Option Value → Shared → Prop} (D : ZipApart z TI TO i1 i2 l1 l2) (hz : IsZipHeld s.heap z TI TO T f) (hT : s.heap.get? T = some oT) (c : Zt z TI TO i1 i2 l1 l2 d xs ys k s.heap) (ex : xs[k]? = some x) (ey : ys[k]? = some y)
    (q : ∀ h', IsZipHeld h' z TI TO T true → h'.IsTupleIter i1 l1 (k + 1) → h'.IsTupleIter i2 l2 (k + 1) → IsPair h' s.heap.objs.size x y → (∀ c o, c ≠ z → c ≠ i1 → c ≠ i2 → s.heap.get? c = some o → h'.get? c = some o) → Q (some (.ref s.heap.objs.size)) { s with heap := h' }) :
    wpAny (model prog w) A (pyNext (.ref z)) Q E s := by
  have ty : s.TypeIs (.ref z) "zip" := ⟨_, hz, rfl⟩
  unfold pyNext
  refine wpAny_bind (wpAny_attempt (wpAny_callSpecial?_slot (name := Str.ofString "__next__") ty F.slot_zip_next (wpAny_call_entry F.slot_zip_next ty F.entry_zip_next ?_ (F.args_zip_next_1 _))))
  have e1 := c.its
  obtain ⟨hp, g, dr, tk, os⟩ := s
  wp_walk using wpAny_tupleHeld_zip (s := ⟨hp, g, dr, tk, os⟩) hz hT
  intro g1 z1 k1
  have it1 := c.one.extBut k1.extBut D.i1z
  have tp1 := c.tup1.extBut k1.extBut D.l1z
  simp only [Bool.false_eq_true, if_false, ← Array.forIn_toList, List.forIn_cons, List.forIn_nil]
  wp_walk using RZ.nextOf_tuple_item (s := ⟨g1, g, dr, tk, os⟩) it1 tp1 ex
  intro g2 it1' k2
  have it2 := (c.two.extBut k1.extBut D.i2z).extBut k2.extBut D.i12.symm
  have tp2 := (c.tup2.extBut k1.extBut D.l2z).extBut k2.extBut D.l2i1
  wp_walk using RZ.nextOf_tuple_item (s := ⟨g2, g, dr, tk, os⟩) it2 tp2 ey
  intro g3 it2' k3
  wp_walk
  have sz : g3.objs.size = hp.objs.size := by rw [k3.1, k2.1, k1.1]
  have kp : ∀ b o, b ≠ z → b ≠ i1 → b ≠ i2 → hp.get? b = some o → (g3.push { cls := .type "tuple", data := .seq #[x, y] }).get? b = some o := fun b o n1 n2 n3 e => Heap.get?_push_of_some _ (k3.extBut _ _ n3 (k2.extBut _ _ n2 (k1.extBut _ _ n1 e)))
  refine ⟨_, rfl, wpAny_pure ?_⟩
  have new : IsPair (g3.push { cls := .type "tuple", data := .seq #[x, y] }) g3.objs.size x y := Heap.get?_push_size _ rfl
  rw [sz] at new ⊢
  exact q _ (Heap.get?_push_of_some _ (k3.extBut _ _ D.i2z.symm (k2.extBut _ _ D.i1z.symm z1))) ((it1'.extBut k3.extBut D.i12).at fun _ e => Heap.get?_push_of_some _ e) (it2'.at fun _ e => Heap.get?_push_of_some _ e) new kp
theorem zt_over {T : Addr} {f : Bool} {oT : Obj} {Q : Option Value → Shared → Prop} (hA : A.handled = none) (D : ZipApart z TI TO i1 i2 l1 l2) (hz : IsZipHeld s.heap z TI TO T f) (hT : s.heap.get? T = some oT) (c : Zt z TI TO i1 i2 l1 l2 d xs ys k s.heap) (en : xs[k]? = none ∨ ys[k]? = none)
    (q : ∀ h', (∀ b o, b ≠ z → b ≠ i1 → b ≠ i2 → s.heap.get? b = some o → h'.get? b = some o) → Q none { s with heap := h' }) : wpAny (model prog w) A (pyNext (.ref z)) Q E s := by
  have ty : s.TypeIs (.ref z) "zip" := ⟨_, hz, rfl⟩
  unfold pyNext
  refine wpAny_bind (wpAny_attempt (wpAny_callSpecial?_slot (name := Str.ofString "__next__") ty F.slot_zip_next (wpAny_call_entry F.slot_zip_next ty F.entry_zip_next ?_ (F.args_zip_next_1 _))))
  have e1 := c.its
  obtain ⟨hp, g, dr, tk, os⟩ := s
  wp_walk using wpAny_tupleHeld_zip (s := ⟨hp, g, dr, tk, os⟩) hz hT
  intro g1 z1 k1
  have it1 := c.one.extBut k1.extBut D.i1z
  have tp1 := c.tup1.extBut k1.extBut D.l1z
  have hA1 : A.in1.handled = none := hA
  have stop : ∀ (g9 : Heap) (e : Addr), (∀ b o, b ≠ z → b ≠ i1 → b ≠ i2 → hp.get? b = some o → g9.get? b = some o) → (∃ o, g9.get? e = some o ∧ o.cls = .type "StopIteration") → wpAny (model prog w) A (do if (← isInstance (.ref e) (.type "StopIteration")) = true then pure none else throw (.ref e)) Q E ⟨g9, g, dr, tk, os⟩ := by
    rintro g9 e kp ⟨o, ho, hc⟩
    refine wpAny_bind (wpAny_isInstance (T := "StopIteration") (b := true) ⟨o, ho, hc⟩ isSubtype_stop ?_)
    exact wpAny_pure (q _ kp)
  simp only [Bool.false_eq_true, if_false, ← Array.forIn_toList, List.forIn_cons, List.forIn_nil]
  cases ex : xs[k]? with
  | none =>
    wp_walk using RZ.nextOf_tuple_end (s := ⟨g1, g, dr, tk, os⟩) hA1 it1 tp1 ex
    intro g2 e k2 he
    exact stop g2 e (fun b o n1 n2 _ h => k2 _ _ n2 (k1.extBut _ _ n1 h)) he
  | some x =>
    have ey : ys[k]? = none := by
      rcases en with h | h
      · rw [ex] at h; cases h
      · exact h
    wp_walk using RZ.nextOf_tuple_item (s := ⟨g1, g, dr, tk, os⟩) it1 tp1 ex
    intro g2 it1' k2
    have it2 := (c.two.extBut k1.extBut D.i2z).extBut k2.extBut D.i12.symm
    have tp2 := (c.tup2.extBut k1.extBut D.l2z).extBut k2.extBut D.l2i1
    wp_walk using RZ.nextOf_tuple_end (s := ⟨g2, g, dr, tk, os⟩) hA1 it2 tp2 ey
    intro g3 e k3 he
    exact stop g3 e (fun b o n1 n2 n3 h => k3 _ _ n3 (k2.extBut _ _ n2 (k1.extBut _ _ n1 h))) he
/-- a zip of two tuples that has told nothing yet -/
structure Zn (z TI TO i1 i2 l1 l2 : Addr) (xs ys : Array Value) (h : Heap) : Prop where
  zip : IsZip h z TI TO .none
  out : ∃ a b, IsPair h TO a b
  its : IsPair h TI (.ref i1) (.ref i2)
  one : h.IsTupleIter i1 l1 0
  two : h.IsTupleIter i2 l2 0
  tup1 : h.IsTuple l1 xs
  tup2 : h.IsTuple l2 ys
theorem Zt.on {h h' : Heap} (c : Zt z TI TO i1 i2 l1 l2 d xs ys k h) (nd : d ∉ [z, TI, TO, i1, i2, l1, l2]) (kp : ∀ b o, b ≠ d → h.get? b = some o → h'.get? b = some o) : Zt z TI TO i1 i2 l1 l2 d xs ys k h' := by
  have n : ∀ b ∈ [z, TI, TO, i1, i2, l1, l2], b ≠ d := fun b hb e => nd (e ▸ hb)
  refine ⟨kp _ _ (n TI (by simp)) c.its, c.one.at fun o => kp _ o (n i1 (by simp)), c.two.at fun o => kp _ o (n i2 (by simp)), c.tup1.at fun o => kp _ o (n l1 (by simp)), c.tup2.at fun o => kp _ o (n l2 (by simp)), ?_⟩
  rcases c.self with ⟨a, x, y, b⟩ | ⟨T, f, oT, a, b, r⟩
  · exact .inl ⟨kp _ _ (n z (by simp)) a, x, y, kp _ _ (n TO (by simp)) b⟩
  · exact .inr ⟨T, f, oT, kp _ _ (n z (by simp)) a, kp _ _ r.2.2.2 b, r⟩
theorem zt_src (hA : A.handled = none) (D : ZipApart z TI TO i1 i2 l1 l2) (nd : d ∉ [z, TI, TO, i1, i2, l1, l2]) : PairSrc prog w A z d [z, TO, i1, i2] (min xs.size ys.size) (fun i a b => xs[i]? = some a ∧ ys[i]? = some b) (fun i h => Zt z TI TO i1 i2 l1 l2 d xs ys i h) where
  off := fun hm => nd (by simp only [List.mem_cons, List.not_mem_nil, or_false] at hm ⊢; rcases hm with h | h | h | h <;> simp [h])
  frame := fun i h h' c kp => c.on nd kp
  item := fun i s Q E hi c hds q => by
    have ex := Array.getElem?_eq_getElem (Nat.lt_of_lt_of_le hi (Nat.min_le_left ..))
    have ey := Array.getElem?_eq_getElem (Nat.lt_of_lt_of_le hi (Nat.min_le_right ..))
    have fr : ∀ {b : Addr} {o : Obj}, s.heap.get? b = some o → s.heap.objs.size ≠ b := fun e => Nat.ne_of_gt (Heap.lt_size e)
    have f1 : s.heap.objs.size ≠ i1 := let ⟨_, e, _⟩ := c.one; fr e
    have f2 : s.heap.objs.size ≠ i2 := let ⟨_, e, _⟩ := c.two; fr e
    have m : ∀ b, b ∉ [z, TO, i1, i2] → b ≠ z ∧ b ≠ TO ∧ b ≠ i1 ∧ b ≠ i2 := fun b hb => ⟨fun e => hb (by simp [e]), fun e => hb (by simp [e]), fun e => hb (by simp [e]), fun e => hb (by simp [e])⟩
    rcases c.self with ⟨a, x, y, b⟩ | ⟨T, f, oT, a, b, r1, r2, r3, r4⟩
    · refine RZ.pyNext_zipT_item D a c.its b c.one c.two c.tup1 c.tup2 ex ey fun h' a1 _ a3 a4 a5 _ kp => ?_
      exact q s.heap.objs.size _ _ h' s.toks ⟨ex, ey⟩ (.inl ⟨_, a5, rfl, _, rfl⟩) ⟨kp _ _ D.TIz D.TITO D.TIi1 D.TIi2 c.its, a3, a4, c.tup1.at fun o => kp _ o D.l1z D.l1TO D.l1i1 D.l1i2, c.tup2.at fun o => kp _ o D.l2z D.l2TO D.l2i1 D.l2i2, .inr ⟨_, false, _, a1, a5, fr a, f1, f2, Nat.ne_of_gt hds⟩⟩
        fun b o hb e => let ⟨m1, m2, m3, m4⟩ := m b hb; kp b o m1 m2 m3 m4 e
    · refine zt_held D a b c ex ey fun h' a1 a3 a4 a5 kp => ?_
      exact q s.heap.objs.size _ _ h' s.toks ⟨ex, ey⟩ (.inl ⟨_, a5, rfl, _, rfl⟩) ⟨kp _ _ D.TIz D.TIi1 D.TIi2 c.its, a3, a4, c.tup1.at fun o => kp _ o D.l1z D.l1i1 D.l1i2, c.tup2.at fun o => kp _ o D.l2z D.l2i1 D.l2i2, .inr ⟨T, true, oT, a1, kp _ _ r1 r2 r3 b, r1, r2, r3, r4⟩⟩
        fun b o hb e => let ⟨m1, _, m3, m4⟩ := m b hb; kp b o m1 m3 m4 e
  done := fun s Q E c q => by
    have en : xs[min xs.size ys.size]? = none ∨ ys[min xs.size ys.size]? = none := (Nat.le_total xs.size ys.size).elim (fun h => .inl (Array.getElem?_eq_none (Nat.le_of_eq (Nat.min_eq_left h).symm))) fun h => .inr (Array.getElem?_eq_none (Nat.le_of_eq (Nat.min_eq_right h).symm))
    have m : ∀ b, b ∉ [z, TO, i1, i2] → b ≠ z ∧ b ≠ TO ∧ b ≠ i1 ∧ b ≠ i2 := fun b hb => ⟨fun e => hb (by simp [e]), fun e => hb (by simp [e]), fun e => hb (by simp [e]), fun e => hb (by simp [e])⟩
    rcases c.self with ⟨a, x, y, b⟩ | ⟨T, f, oT, a, b, r⟩
    · exact RZ.pyNext_zipT_end hA D a c.its b c.one c.two c.tup1 c.tup2 en fun h' kp => q h' s.toks fun b o hb e => let ⟨m1, m2, m3, m4⟩ := m b hb; kp b o m1 m2 m3 m4 e
    · exact zt_over hA D a b c en fun h' kp => q h' s.toks fun b o hb e => let ⟨m1, _, m3, m4⟩ := m b hb; kp b o m1 m3 m4 e
theorem zt_arg (D : ZipApart z TI TO i1 i2 l1 l2) : PairArg prog w "zip" z [z, TI, TO, i1, i2, l1, l2] [z, TO, i1, i2] (min xs.size ys.size) (fun i a b => xs[i]? = some a ∧ ys[i]? = some b) (Zn z TI TO i1 i2 l1 l2 xs ys) where
  type := fun s c => ⟨_, c.zip, rfl⟩
  notDict := by decide
  keep := fun h h' c kp => ⟨kp _ _ c.zip, let ⟨a, b, e⟩ := c.out; ⟨a, b, kp _ _ e⟩, kp _ _ c.its, c.one.at (kp _), c.two.at (kp _), c.tup1.at (kp _), c.tup2.at (kp _)⟩
  there := fun h c b hb => by
    obtain ⟨_, _, e3⟩ := c.out
    obtain ⟨_, e4, _⟩ := c.one
    obtain ⟨_, e5, _⟩ := c.two
    obtain ⟨_, e6, _⟩ := c.tup1
    obtain ⟨_, e7, _⟩ := c.tup2
    simp only [List.mem_cons, List.not_mem_nil, or_false] at hb
    rcases hb with rfl | rfl | rfl | rfl | rfl | rfl | rfl
    · exact ⟨_, c.zip⟩
    · exact ⟨_, c.its⟩
    · exact ⟨_, e3⟩
    · exact ⟨_, e4⟩
    · exact ⟨_, e5⟩
    · exact ⟨_, e6⟩
    · exact ⟨_, e7⟩
  sub := fun b hb => by
    simp only [List.mem_cons, List.not_mem_nil, or_false] at hb ⊢
    rcases hb with h | h | h | h <;> simp [h]
  noKeys := fun A s Q E hA c => getAttrOr_miss_zip c.zip rfl rfl rfl zip_no_keys (by decide +kernel) hA
  iter := fun A s d Q E hA c hd nd q => by
    refine wpAny_pyIter_zip c.zip (q z [z, TO, i1, i2] (fun i h => Zt z TI TO i1 i2 l1 l2 d xs ys i h) s.heap s.toks (zt_src hA D nd) ?_ (fun _ _ e => e) fun b hb => .inl hb)
    exact ⟨c.its, c.one, c.two, c.tup1, c.tup2, .inl ⟨c.zip, c.out⟩⟩
end
open L2
theorem apart5 {n l1 l2 : Nat} (h1 : l1 < n) (h2 : l2 < n) : ZipApart (n + 4) (n + 2) (n + 3) n (n + 1) l1 l2 := by
  constructor <;> (intro e; have e : @Eq Nat _ _ := e; omega)
theorem vals_zip {P : Program} {w : World} {K : List (Key × V)} : ∀ {us ws : List Value}, Vals (K.map fun p => kV p.1) us → Vals (K.map (·.2)) ws → ∃ prs : List (Key × Value), KV K prs ∧ prs.length = us.length ∧ prs.length = ws.length ∧ ∀ (i : Nat) (a b : Value), us[i]? = some a → ws[i]? = some b → ∃ k, prs[i]? = some (k, b) ∧ keyIs k a = true := by
  induction K with
  | nil =>
    intro us ws r1 r2
    cases r1
    cases r2
    exact ⟨[], .nil, rfl, rfl, fun i a b e => by simp at e⟩
  | cons p K ih =>
    intro us ws r1 r2
    cases r1 with
    | cons h1 t1 =>
      cases r2 with
      | cons h2 t2 =>
        rename_i u us v ws
        obtain ⟨prs, a, b, c, d⟩ := ih t1 t2
        refine ⟨(p.1, v) :: prs, .cons ⟨rfl, h2⟩ a, by simp [b], by simp [c], fun i x y e1 e2 => ?_⟩
        cases i with
        | zero =>
          cases (show u = x by simpa using e1)
          cases (show v = y by simpa using e2)
          exact ⟨p.1, rfl, kV_is (P := P) (w := w) h1⟩
        | succ i => exact d i x y (by simpa using e1) (by simpa using e2)
section
variable {X : Cx} {a b : Expr} {t : TA} {p p1 pos pos1 : Pos}
def tDictZ (K : PySem.W.Frag) (t : TA) : TE := fun σ H Q => t σ H fun vs H1 => ∃ (a b : Addr) (kvs : List (Key × V)), vs = [.ref a, .ref b] ∧ SqT K H1 a (kvs.map fun p => kV p.1) ∧ SqT K H1 b (kvs.map (·.2)) ∧ ∀ q, H1 q = none → Q (.ref q) (upd H1 q (.dK (mergeK [] kvs)))
theorem pe_dictZ (hc : X.calm = true) (g1 : Gl X "dict") (m1 : X.mg "dict" = none) (g2 : Gl X "zip") (m2 : X.mg "zip" = none) (ha : PA X [a, b] t) (he : starEach [a, b] X.env = (false, eval a X.env) :: starEach [b] X.env := by rfl) (hpl : (backTo pos1 (starEach [b] X.env)).any (·.1) = false := by rfl) :
    PE X (.Call (.Name "dict" p) [.Call (.Name "zip" p1) [a, b] [] pos1] [] pos) (tDictZ X.K t) := by
  refine ⟨fun pins s σ H Q I h => ?_⟩
  refine wpAny_Call_Name_kw (ld_blt I g1 m1 (u := .type "dict") (by decide +kernel) ?_)
  refine PyProof.Rows.callWith_type1 ?_
  refine PySem.Calls.spliced_cons ?_
  rw [if_neg Bool.false_ne_true]
  refine wpAny_Call_Name_kw (ld_blt I g2 m2 (u := .type "zip") (by decide +kernel) ?_)
  refine PyProof.Rows.callWith_type1 (thn (ha.run pos1 pins s σ H _ I h) fun us s1 ⟨vs, H1, I1, r1, q1⟩ => ?_) he hpl
  obtain ⟨l1, l2, kvs, rfl, t1, t2, q⟩ := q1
  obtain ⟨u1, u2, rfl, e1, e2⟩ := vals2 r1
  cases e1
  cases e2
  obtain ⟨xs, v1, it1, z1⟩ := I1.tuple t1
  obtain ⟨ys, v2, it2, z2⟩ := I1.tuple t2
  obtain ⟨prs, kv, n1, n2, at_⟩ := vals_zip (P := X.prog) (w := X.w) v1 v2
  have b1 : l1 < s1.heap.objs.size := it1.lt
  have b2 : l2 < s1.heap.objs.size := it2.lt
  refine RZ.call_zipT it1 it2 fun g a1 a2 a3 a4 a5 a6 kp => ?_
  refine PySem.Calls.spliced_nil ?_
  have len : min xs.toArray.size ys.toArray.size = prs.length := by
    rw [List.size_toArray, List.size_toArray, ← n1, ← n2, Nat.min_self]
  have zn : Zn (s1.heap.objs.size + 4) (s1.heap.objs.size + 2) (s1.heap.objs.size + 3) s1.heap.objs.size (s1.heap.objs.size + 1) l1 l2 xs.toArray ys.toArray g := ⟨a1, ⟨_, _, a3⟩, a2, a4, a5, let ⟨o, e, r⟩ := it1; ⟨o, kp _ _ e, r⟩, let ⟨o, e, r⟩ := it2; ⟨o, kp _ _ e, r⟩⟩
  have hk : kvs.length = prs.length := Paired.length kv
  have hz : prs.length ≤ sizeLine := by
    rw [List.length_map] at z1
    omega
  have big : ∀ c ∈ [s1.heap.objs.size + 4, s1.heap.objs.size + 3, s1.heap.objs.size, s1.heap.objs.size + 1], s1.heap.objs.size ≤ c := fun c hc => by
    simp only [List.mem_cons, List.not_mem_nil, or_false] at hc
    rcases hc with h | h | h | h <;> (rw [h]; first | exact Nat.le_refl _ | exact Nat.le_add_right _ _)
  refine PySem.call_dict_pairs (knd := mixKind X.prog X.w) (kvs := prs) (s := { s1 with heap := g }) (zt_arg (apart5 b1 b2)) (I1.ok.hd hc) zn ⟨len.symm, fun i k v ⟨ea, eb⟩ => ?_⟩ (by rw [len]; exact hz) fun g' tk hd' k => ?_
  · exact at_ i k v (by simpa using ea) (by simpa using eb)
  · have kk : ∀ c o, s1.heap.get? c = some o → g'.get? c = some o := fun c o e => k c o (fun m => absurd (Heap.lt_size e) (Nat.not_lt.mpr (big c m))) (kp c o e)
    have hs : s1.heap.objs.size ≤ g.objs.size := by rw [a6]; exact Nat.le_add_right _ _
    have hm : (g.objs.size == sysModules) = false := beq_eq_false_iff_ne.mpr (Nat.ne_of_gt (Nat.lt_of_lt_of_le I1.big hs))
    have hl : (mergeK [] kvs).length ≤ sizeLine := Nat.le_trans (length_mergeK kvs []) (by rw [List.length_nil, Nat.zero_add, hk]; exact hz)
    exact ⟨.ref g.objs.size, upd H1 g.objs.size (.dK (mergeK [] kvs)), I1.laid (t' := tk) kk hs (show ObjOk X.prog X.w _ _ _ (.dK (mergeK [] kvs)) from ⟨hl, hm, merged [] prs, KV.merge kv .nil, hd'⟩), rfl, q _ (I1.hok.fresh hs)⟩
end
def keysOf : List Val → Option (List Key)
  | [] => some []
  | x :: xs => match toKey x, keysOf xs with
    | some k, some ks => some (k :: ks)
    | _, _ => none
def zipOk (xs ys : List Val) : Bool := Nat.beq xs.length ys.length && (keysOf xs).isSome
def eDictZ (g : En → Hea → Res (List Val)) : En → Hea → Res Val := fun e h => (g e h).bind fun ds h1 => match ds with
  | [.tup xs, .tup ys] => if zipOk xs ys = true then .ok (.dic false ((mergeKv [] (xs.zip ys)).map (·.1)) ((mergeKv [] (xs.zip ys)).map (·.2))) h1 else .stuck
  | _ => .stuck
section
variable {S : Sy} {ρ : Own} {H : Hp}
theorem zip_rep : ∀ {xs ys : List Val} {ks : List Key} {us ws : List V}, xs.length = ys.length → keysOf xs = some ks → Reps S ρ H xs us → Reps S ρ H ys ws → ∃ kvs : List (Key × V), us = kvs.map (fun p => kV p.1) ∧ ws = kvs.map (·.2) ∧ KvR S ρ H kvK (xs.zip ys) kvs
  | [], [], _, _, _, _, _, .nil, .nil => ⟨[], rfl, rfl, .nil⟩
  | x :: xs, y :: ys, _, _, _, hl, e, .cons r t, .cons r' t' => by
    unfold keysOf at e
    split at e
    · rename_i k ks h1 h2
      cases e
      obtain rfl := toKey_ok h1
      obtain rfl := kvK_rep r
      obtain ⟨kvs, e1, e2, q⟩ := zip_rep (by simpa using hl) h2 t t'
      exact ⟨(k, _) :: kvs, by rw [e1]; rfl, by rw [e2]; rfl, .cons r' q⟩
    · cases e
end
section
variable {T : Tb} {X : Cx} {W : WX} {a b : Expr} {g : En → Hea → Res (List Val)} {p p1 pos pos1 : Pos}
theorem se_dictZ (hc : X.calm = true) (g1 : Gl X "dict") (m1 : X.mg "dict" = none) (g2 : Gl X "zip") (m2 : X.mg "zip" = none) (ha : SA T X W [a, b] g) (he : starEach [a, b] X.env = (false, eval a X.env) :: starEach [b] X.env := by rfl) (hpl : (backTo pos1 (starEach [b] X.env)).any (·.1) = false := by rfl) :
    SE T X W (.Call (.Name "dict" p) [.Call (.Name "zip" p1) [a, b] [] pos1] [] pos) (eDictZ g) := (pe_dictZ hc g1 m1 g2 m2 ha he hpl).imp fun σ H Q q => by
  obtain ⟨ρ, e, h, R, E, a⟩ := q
  refine ⟨ρ, e, h, R, E, (AftA.bind a).mono fun vs H1 ⟨ρ1, ds, h1, s, R1, r1, a1⟩ => ?_⟩
  split at a1
  · rename_i xs ys
    split at a1
    · rename_i ok
      unfold zipOk at ok
      rw [Bool.and_eq_true] at ok
      have hl := Nat.eq_of_beq_eq_true ok.1
      cases hk : keysOf xs with
      | none => rw [hk] at ok; exact absurd ok.2 Bool.false_ne_true
      | some ks =>
        cases r1 with
        | cons r1 t1 =>
          cases t1 with
          | cons r2 t2 =>
            cases t2
            obtain ⟨p1, us, rfl, sq1, q1⟩ := r1.tup_
            obtain ⟨p2, ws, rfl, sq2, q2⟩ := r2.tup_
            obtain ⟨kvs, rfl, rfl, kv⟩ := zip_rep hl hk q1 q2
            refine ⟨p1, p2, kvs, rfl, sq1, sq2, fun q n => ?_⟩
            have kv' := KvR.merge (acc := []) (as := []) .nil (kv.mono (Mv.side (o := .dK (mergeK [] kvs)) n))
            exact a1 ρ1 (.ref q) _ (.side n) (R1.side n) (.dicK (R1.fz n) upd_same kv'.split.1 rfl kv'.split.2)
    · exact a1.elim
  · exact a1.elim
end
end Lad
end
/-! ## LadDt -/
section
set_option maxRecDepth 100000
set_option maxHeartbeats 2000000
namespace Lad
open PySem PySem.Spec PyProof.Rows L2
/-! ### d[x, y] = v where d goes by tuples; list(d) -/
def toKeys : List Val → Option (List Key)
  | [] => some []
  | d :: ds => match toKey d, toKeys ds with
    | some k, some ks => some (k :: ks)
    | _, _ => none
theorem toKeys_ok : ∀ {ds : List Val} {ks : List Key}, toKeys ds = some ks → ds = ks.map keyVal
  | [], _, e => by cases e; rfl
  | d :: ds, _, e => by
    unfold toKeys at e
    split at e
    · rename_i k ks h1 h2
      cases e
      rw [List.map_cons, ← toKeys_ok h2, toKey_ok h1]
    · cases e
theorem kvs_rep {S : Sy} {ρ : Own} {H : Hp} : ∀ {ks : List Key} {vs : List V}, Reps S ρ H (ks.map keyVal) vs → vs = ks.map kV
  | [], _, .nil => rfl
  | k :: ks, _, .cons r t => by rw [kvK_rep r, kvs_rep t, List.map_cons]
theorem keys_rep {S : Sy} {ρ : Own} {H : Hp} : ∀ ks : List Key, Reps S ρ H (ks.map keyVal) (ks.map kV)
  | [] => .nil
  | .inl i :: ks => .cons (.int i) (keys_rep ks)
  | .inr z :: ks => .cons (.str z) (keys_rep ks)
def keysEq : List Val → List Val → Bool
  | [], [] => true
  | a :: as, b :: bs => keyEq a b && keysEq as bs
  | _, _ => false
def tupEq : Val → Val → Bool
  | .tup a, .tup b => keysEq a b
  | _, _ => false
theorem keysEq_kv : ∀ a b : List Key, keysEq (a.map keyVal) (b.map keyVal) = decide (a = b)
  | [], [] => rfl
  | [], _ :: _ => rfl
  | _ :: _, [] => rfl
  | x :: a, y :: b => by
    rw [List.map_cons, List.map_cons, keysEq, keysEq_kv a b, keyEq_kv x y]
    by_cases h : x = y <;> by_cases h2 : a = b <;> simp [h, h2]
theorem tupEq_kv (a b : List Key) : tupEq (kvT a) (kvT b) = decide (a = b) := keysEq_kv a b
def hasT : List (Val × Val) → Val → Bool
  | [], _ => false
  | (k, _) :: r, x => tupEq k x || hasT r x
def putTv (x d : Val) (kvs : List (Val × Val)) : List (Val × Val) := if hasT kvs x = true then kvs.map (fun p => if tupEq p.1 x = true then (p.1, d) else p) else kvs ++ [(x, d)]
section
variable {S : Sy} {ρ : Own} {H : Hp}
theorem KvR.hasT : ∀ {kvs : List (Val × Val)} {ps : List (List Key × V)} {k : List Key}, KvR S ρ H kvT kvs ps → Lad.hasT kvs (kvT k) = ps.any fun kv => decide (kv.1 = k)
  | _, _, k, .nil => rfl
  | _, _, k, .cons r t => by
    unfold Lad.hasT
    rw [tupEq_kv, t.hasT, List.any_cons]
theorem KvR.appT : ∀ {kvs : List (Val × Val)} {ps : List (List Key × V)} {k : List Key} {d : Val} {v : V}, KvR S ρ H kvT kvs ps → Rep S ρ H d v → KvR S ρ H kvT (kvs ++ [(kvT k, d)]) (ps ++ [(k, v)])
  | _, _, k, d, v, .nil, q => .cons q .nil
  | _, _, k, d, v, .cons r t, q => .cons r (t.appT q)
theorem KvR.repT : ∀ {kvs : List (Val × Val)} {ps : List (List Key × V)} {k : List Key} {d : Val} {v : V}, KvR S ρ H kvT kvs ps → Rep S ρ H d v → KvR S ρ H kvT (kvs.map (fun p => if tupEq p.1 (kvT k) = true then (p.1, d) else p)) (ps.map fun kv => if kv.1 = k then (kv.1, v) else kv)
  | _, _, k, d, v, .nil, q => .nil
  | _, _, k, d, v, .cons (k := k') r t, q => by
    rw [List.map_cons, List.map_cons]
    simp only [tupEq_kv]
    have := t.repT (k := k) q
    by_cases h : k' = k
    · rw [if_pos (decide_eq_true h), if_pos h]
      exact .cons q (by simpa only [tupEq_kv] using this)
    · rw [if_neg (by simpa using h), if_neg h]
      exact .cons r (by simpa only [tupEq_kv] using this)
theorem KvR.putT {kvs : List (Val × Val)} {ps : List (List Key × V)} {k : List Key} {d : Val} {v : V} (t : KvR S ρ H kvT kvs ps) (q : Rep S ρ H d v) : KvR S ρ H kvT (putTv (kvT k) d kvs) (putK ps k v) := by
  unfold putTv putK
  rw [t.hasT]
  split
  · exact t.repT q
  · exact t.appT q
end
def setDT (h : Hea) (o : Val) (ds : List Val) (v : Val) : Option Hea := match o, toKeys ds with
  | .ref i, some _ => (match h[i]? with
    | some (.dcT kvs) => if kvs.length < 16777216 then some (h.set i (.dcT (putTv (.tup ds) v kvs))) else none
    | _ => none)
  | _, _ => none
theorem setDT_inv {h h' : Hea} {o v : Val} {ds : List Val} (e : setDT h o ds v = some h') : ∃ i ks kvs, o = .ref i ∧ toKeys ds = some ks ∧ h[i]? = some (.dcT kvs) ∧ kvs.length < 16777216 ∧ h' = h.set i (.dcT (putTv (.tup ds) v kvs)) := by
  unfold setDT at e
  split at e
  · rename_i i ks hk
    split at e
    · rename_i kvs hx
      split at e
      · rename_i hl
        cases e
        exact ⟨i, ks, kvs, rfl, hk, hx, hl, rfl⟩
      · cases e
    · cases e
  · cases e
def sDPutT (fv fo : En → Hea → Res Val) (g : En → Hea → Res (List Val)) : En → Hea → SRes := fun e h => ofR ((fv e h).bind fun v h1 => (fo e h1).bind fun o h2 => (g e h2).bind fun ds h3 => if ds.length ≤ 16777216 then match setDT h3 o ds v with
  | some h4 => .ok Val.non h4
  | none => .stuck
  else .stuck) e fun _ h4 => .nx e h4
section
variable {T : Tb} {X : Cx} {W : WX} {a b c : Expr} {es : List Expr} {f f1 f3 : En → Hea → Res Val} {g : En → Hea → Res (List Val)} {pos pos' p2 : Pos}
theorem st_dputT {x1} (hu : X.A.units + 1 < cLine) (hv : SE T X W c f3) (ho : SE T X W a f1) (hi : SA T X W es g) (hs : swapsWith c (some (.Subscript a (.Tuple es x1 p2) pos')) pos.line X.env = pure false := by rfl) : SSt T X W (.Assign [.Subscript a (.Tuple es x1 p2) pos'] c pos) (Lad.sDPutT f3 f1 g) :=
  (ps_dput hu ho (pe_tup hi) hv hs).imp fun D σ H q => by
    obtain ⟨ρ, e, h, R, E, a⟩ := q
    unfold Lad.sDPutT at a
    have a := (AftS.ofR a E).bind
    refine ⟨ρ, e, h, R, E, a.mono fun v H1 ⟨ρ1, d, h1, s1, R1, r1, a1⟩ => ⟨ρ1, e, h1, R1, E.go s1, a1.bind.mono fun x H2 ⟨ρ2, od, h2, s2, R2, r2, a2⟩ => ⟨ρ2, e, h2, R2, (E.go s1).go s2, (AftA.bind a2).mono fun vs H3 ⟨ρ3, ds, h3, s3, R3, r3, a3⟩ => ?_⟩⟩⟩
    have l := r3.length
    split at a3
    · refine ⟨by rw [sizeLine_eq]; omega, fun t nt => ?_⟩
      split at a3
      · rename_i h4 hset
        obtain ⟨i, ks, kvs, rfl, ek, hx, hl, rfl⟩ := setDT_inv hset
        have R3' : Rel (sy T X) ρ3 h3 (upd H3 t (.tup vs)) := R3.side nt
        have g3 : Go (sy T X) ρ3 H3 ρ3 (upd H3 t (.tup vs)) := .side nt
        obtain ⟨p, rfl, ep⟩ := (r2.go s3).ref_
        have ob := R3'.ob _ _ _ hx ep
        obtain rfl := toKeys_ok ek
        obtain rfl := kvs_rep r3
        cases ob with
        | @dcT _ ps _ hp kv =>
          have m : Mv (sy T X) ρ3 (upd H3 t (.tup (ks.map kV))) ρ3 (upd (upd H3 t (.tup (ks.map kV))) p (.dT (putK ps ks v))) := .put ep hp True.intro
          have R4 := R3'.put (o := .dT (putK ps ks v)) (ob := .dcT (putTv (kvT ks) d kvs)) ep hp True.intro (.dcT upd_same ((kv.putT (((r1.go s2).go s3).go g3)).mono m))
          have g4 : Go (sy T X) ρ3 H3 ρ3 (upd (upd H3 t (.tup (ks.map kV))) p (.dT (putK ps ks v))) := g3.trans (.put ep hp True.intro)
          refine ⟨p, _, rfl, DPut.t hp upd_same (by rw [sizeLine_eq, ← kv.length]; exact hl), ?_⟩
          obtain ⟨ρ5, d5, h5, s5, R5, r5, E5, a5⟩ := a3 ρ3 .non _ g4 R4 .non
          exact a5 ρ5 σ _ .rfl R5 E5
      · exact a3.elim
    · exact a3.elim
/-- list(d) -/
def keysT (h : Hea) : Val → Option (List Val)
  | .ref i => match h[i]? with
    | some (.dcT kvs) => some (kvs.map (·.1))
    | _ => none
  | _ => none
def lKeysT (f : En → Hea → Res Val) : En → Hea → Res (List Val) := fun e h => (f e h).bind fun d h1 => match keysT h1 d with
  | some xs => .ok xs h1
  | none => .stuck
theorem keys_tup {S : Sy} {ρ : Own} {H : Hp} : ∀ {kvs : List (Val × Val)} {ps : List (List Key × V)} {bs : List Addr}, KvR S ρ H kvT kvs ps → IsKeys H ps bs → Reps S ρ H (kvs.map (·.1)) (bs.map V.ref)
  | _, _, bs, .nil, q => by
    cases q
    exact .nil
  | _, _, bs, .cons (k := k) r t, q => by
    cases q with
    | cons q1 q2 => exact .cons (.tup (.inl (.inl q1)) (keys_rep k)) (keys_tup t q2)
theorem sl_keysT (hc : X.calm = true) (hm : X.mg "list" = none) (ha : SE T X W a f) (hg : Gl X "list" := by rfl) (he : starEach [a] X.env = (false, eval a X.env) :: starEach [] X.env := by rfl) : SL T X W (.Call (.Name "list" p2) [a] [] pos) (lKeysT f) :=
  (pe_callTy (call_list_dT hc) hg hm (by decide +kernel) (pa_cons ha pa_nil he) (he := he) (hpl := rfl)).imp fun σ H Q q => by
    obtain ⟨ρ, e, h, R, E, a⟩ := q
    refine ⟨ρ, e, h, R, E, (AftL.bind1 a).mono fun v H1 ⟨ρ1, d, h1, s, R1, r1, a1⟩ => ?_⟩
    split at a1
    · rename_i xs hx
      unfold keysT at hx
      split at hx
      · split at hx
        · rename_i i kvs hi
          cases hx
          obtain ⟨p, rfl, ep⟩ := r1.ref_
          have ob := R1.ob _ _ _ hi ep
          cases ob with
          | @dcT _ ps _ hp kv =>
            exact ⟨p, ps, rfl, .inl hp, fun l bs n q => a1.made R1 (keys_tup kv q) l n⟩
        · cases hx
      · cases hx
    · exact a1.elim
end
/-! ### a + b as a list to be changed -/
def lAdd (f1 f2 : En → Hea → Res Val) : En → Hea → Res (List Val) := fun e h => (f1 e h).bind fun x h1 => (f2 e h1).bind fun y h2 => match lstP h2 x, lstP h2 y with
  | some xs, some ys => if xs.length + ys.length ≤ 16777216 then .ok (xs ++ ys) h2 else .stuck
  | _, _ => .stuck
section
variable {T : Tb} {X : Cx} {W : WX} {a b : Expr} {f1 f2 : En → Hea → Res Val} {pos : Pos}
theorem sl_add (ha : SE T X W a f1) (hb : SE T X W b f2) : SL T X W (.BinOp a .Add b pos) (lAdd f1 f2) := (pe_op op_cat ha hb).imp fun σ H Q q => by
  obtain ⟨ρ, e, h, R, E, a⟩ := q
  refine ⟨ρ, e, h, R, E, (AftL.bind1 a).mono fun u H1 ⟨ρ1, x, h1, s1, R1, r1, a1⟩ => ⟨ρ1, e, h1, R1, E.go s1, (AftL.bind1 a1).mono fun v H2 ⟨ρ2, y, h2, s2, R2, r2, a2⟩ => ?_⟩⟩
  split at a2
  · rename_i xs ys e1 e2
    obtain ⟨p1, v1, rfl, k1, q1⟩ := R2.lstQ (r1.go s2) e1
    obtain ⟨p2, v2, rfl, k2, q2⟩ := R2.lstQ r2 e2
    have l1 := q1.length
    have l2 := q2.length
    split at a2
    · exact ⟨p1, p2, v1, v2, rfl, rfl, k1, k2, by rw [sizeLine_eq]; omega, fun p n => a2.made R2 (q1.app q2) p n⟩
    · exact a2.elim
  · exact a2.elim
end
end Lad
end
/-! ## LadSc -/
section
set_option maxRecDepth 100000
set_option maxHeartbeats 2000000
namespace Lad
open PySem PySem.Spec PyProof.Rows L2
/-! ### {e for x in xs}: a set of ints -/
/-- one more member -/
def Grown (w : World) (D : Addr) (c : Int) (S : Int → Bool) (n : Nat) (H : Hp) : Hp := upd H D (SetO w D (fun j => S j || decide (j = c)) (if S c = true then n else n + 1))
abbrev Empty0 (w : World) (D : Addr) (H : Hp) : Hp := upd H D (SetO w D (fun _ => false) 0)
/-- what one turn asks -/
def tTurn (w : World) (D : Addr) (g : TG) (tt : TT) (te : TE) (vs : List Nat) (σ : L2.St) (x : V) (H : Hp) (Nx : Hp → Prop) : Prop := g x (wipe σ vs) H fun σ2 H2 => wipe σ2 vs = wipe σ vs ∧ tt σ2 H2 fun b H3 =>
  if b = true then te σ2 H3 fun y H4 => ∃ c S n, y = .int c ∧ H4 D = some (SetO w D S n) ∧ n + 1 < scanBound ∧ Nx (Grown w D c S n H4) else Nx H3
def tSet (w : World) (wi : TI) (g : TG) (tt : TT) (te : TE) (vs : List Nat) : TE := fun σ H Q => wi σ H fun J H1 => ∀ D, H1 D = none → ∃ W : Nat → Nat → Hp → Prop, (∃ m, W 0 m (Empty0 w D H1)) ∧ ∀ i m H, W i m H →
  (J.stop i H ∧ Q (.ref D) H) ∨ (J.go i H ∧ ∃ Nx : Hp → Prop, (∀ H', Nx H' → ∃ m', m' < m ∧ W (i + 1) m' H') ∧ ∀ x H', J.yld i H x H' → tTurn w D g tt te vs σ x H' Nx)
section
variable {X : Cx}
theorem addInt {pins : List (Addr × Obj)} {σ : L2.St} {H : Hp} {s : Shared} {E : Value → Shared → Prop} {D : Addr} {S : Int → Bool} {n : Nat} {c : Int} {u : Value} {Q : Value → Shared → Prop} (I : Inv X pins σ H s) (hD : H D = some (SetO X.w D S n)) (room : n + 1 < scanBound) (ru : RelV (.int c) u)
    (q : ∀ s', Inv X pins σ (Grown X.w D c S n H) s' → Q .none s') : wpAny (model X.prog X.w) X.A (call (.builtin "set.add") [.ref D, u]) Q E s := by
  obtain ⟨t, rfl⟩ := ru
  refine setR_add (setO_get I hD) room fun h' sb new => q _ ?_
  have there : ∃ o, h'.get? D = some o := let ⟨o, _, _, _, e, _⟩ := new; ⟨o, e⟩
  exact I.write (e := D) (t' := s.toks + 1) (by rw [hD]; trivial) (.inl rfl) (fun b o hb e => (sb.2 b hb).trans e) there (setO_new new)
/-- the block's loop, one turn -/
theorem sc_turn {B : Cx} {pins : List (Addr × Obj)} {s : Shared} {σ : L2.St} {H : Hp} {E : Value → Shared → Prop} {elt tg : Expr} {ifs : List Expr} {g : TG} {tt : TT} {te : TE} {vs : List Nat} {D : Addr} {x : V} {u : Value} {Nx : Hp → Prop} {Fin : Shared → Prop}
    (hx : ∀ e s, B.xe e s → False) (pg : PG B tg g) (pt : PTs B ifs tt) (pe : PE B elt te) (I : Inv B pins (wipe σ vs) H s) (rx : RelV x u) (t : tTurn B.w D g tt te vs σ x H Nx)
    (fin : ∀ (σ2 : L2.St) (s' : Shared) (H' : Hp), wipe σ2 vs = wipe σ vs → Inv B pins σ2 H' s' → Nx H' → Fin s') :
    wpAny (model B.prog B.w) B.A (assign tg B.env u) (fun _ s2 => wpAny (model B.prog B.w) B.A (forIn ifs true fun c r => if r = true then do let ok ← isTrue c B.env (eval c B.env); pure (ForInStep.yield ok) else pure (ForInStep.yield r)) (fun ok s3 =>
      if ok = true then wpAny (model B.prog B.w) B.A (eval elt B.env) (fun y s4 => wpAny (model B.prog B.w) B.A (call (.builtin "set.add") [.ref D, y]) (fun _ s5 => Fin s5) E s4) E s3 else Fin s3) E s2) E s := by
  refine wpAny_mono (pg.run pins s _ H x u _ I rx t) (fun _ s2 ⟨σ2, H2, I2, hw, q2⟩ => wpAny_mono (pt.run pins s2 σ2 H2 _ I2 q2) (fun ok s3 ⟨H3, I3, q3⟩ => ?_) fun e s z => (hx e s z).elim) fun e s z => (hx e s z).elim
  cases ok with
  | false => exact fin σ2 s3 H3 hw I3 q3
  | true =>
    refine wpAny_mono (pe.run pins s3 σ2 H3 _ I3 q3) (fun y s4 ⟨yv, H4, I4, ry, c, S, n, e, hD, room, nx⟩ => ?_) fun e s z => (hx e s z).elim
    subst e
    exact addInt I4 hD room ry fun s5 I5 => fin σ2 s5 _ hw I5 nx
/-- the walked thing's own objects, within the block -/
theorem blk_fp {s : Shared} {H : Hp} {scope : Scope} {ce : Env} {fp : List Addr} {σ' : L2.St} {H' : Hp} {s' : Shared} (I : Inv (X.blk s H scope ce fp) [] σ' H' s') (hn : ∀ b ∈ fp, H' b = none) : ∀ b ∈ fp, FpOk (X.blk s H scope ce fp) [] H' b := by
  intro b hb
  refine ⟨hn b hb, (I.ok.exf b hb).1, I.ok.exfs b hb, .inl hb, fun x c e => (I.ok.exf b hb).2 x c e, fun p hp => ?_⟩
  have z : p ∈ ([] : List (Addr × Obj)) := hp
  cases z
theorem pe_set {elt tg iter : Expr} {ifs : List Expr} {scope : Scope} {own : List (PySem.Str × Nat)} {pos : Pos} {wi : TI} {g : TG} {tt : TT} {te : TE} (hc : X.calm = true) (hN : X.N.Nodup) (hi : PI X tg iter wi) (ok : BlkOk X.N X.env.scope scope own)
    (hg : ∀ (s : Shared) (H : Hp) (C : Addr) (cl : List (PySem.Str × Addr)) (fp : List Addr), PG (X.blk s H scope (compEnvC scope cl C X.env) fp) tg g) (ht : ∀ (s : Shared) (H : Hp) (C : Addr) (cl : List (PySem.Str × Addr)) (fp : List Addr), PTs (X.blk s H scope (compEnvC scope cl C X.env) fp) ifs tt)
    (he : ∀ (s : Shared) (H : Hp) (C : Addr) (cl : List (PySem.Str × Addr)) (fp : List Addr), PE (X.blk s H scope (compEnvC scope cl C X.env) fp) elt te) (hs : ∀ x, foldedSetIterable iter X.env x = pure x := by intro _; rfl) :
    PE X (.SetComp elt [⟨tg, iter, ifs, 0⟩] scope pos) (tSet X.w wi g tt te (own.map (·.2))) := by
  refine ⟨fun pins s σ H Q I h => ?_⟩
  rw [PpSet.eval_SetComp]
  have clo : ∀ y ∈ scope.names, y.2 = .free → ∃ c, X.env.cells.lookup y.1 = some c := fun y hy e => (ok.free y hy e).elim (fun k => I.ok.has _ (.inl k)) fun k => I.ok.has _ (.inr k)
  refine wpAny_comprehension_free (use := none) rfl hs (closure_ok clo) ok.kind (fun y hy e => by rw [ok.uniq y hy, e]) (thn (hi.run pins s σ H _ I h) fun xv s1 hx => thn hx fun itv s2 h2 => ?_)
  obtain ⟨it, fp, tn, J, H2, rfl, I2, T, st2, f2, q⟩ := h2
  refine PpSet.newSet_ok (newEnv_comp ?_)
  obtain ⟨W, ⟨m0, w0⟩, turn⟩ := q s2.heap.objs.size (I2.hok.fresh (Nat.le_refl _))
  have kp : ∀ b o, s2.heap.get? b = some o → (s2.heap.push { cls := .type "set", dict := none, data := .set #[] 0 (.fresh 0 0 (!X.w.params.followText "set-order")) }).get? b = some o := fun b o e => Heap.get?_push_of_some _ e
  have sz : (s2.heap.push { cls := .type "set", dict := none, data := .set #[] 0 (.fresh 0 0 (!X.w.params.followText "set-order")) }).objs.size = s2.heap.objs.size + 1 := Heap.size_push ..
  have I3 := I2.laid (t' := s2.toks) kp (Nat.le_refl _) (setO_new (setR_fresh X.w))
  generalize s2.heap.push { cls := .type "set", dict := none, data := .set #[] 0 (.fresh 0 0 (!X.w.params.followText "set-order")) } = hp3 at kp sz I3 ⊢
  generalize hs3 : ({ s2 with heap := hp3 } : Shared) = s3 at I3
  have e3 : s3.heap = hp3 := by rw [← hs3]
  generalize hD : s2.heap.objs.size = D at *
  have I3 : Inv X pins σ (Empty0 X.w D H2) s3 := I3
  have lt : ∀ b ∈ fp, b < D := fun b hb => by
    obtain ⟨o, e, _⟩ := T.obj _ _ st2 b hb
    rw [← hD]
    exact Heap.lt_size e
  have f3 : ∀ b ∈ fp, FpOk X pins (Empty0 X.w D H2) b ∧ b < s3.heap.objs.size := fun b hb => by
    refine ⟨⟨?_, (f2 b hb).2⟩, by rw [e3, sz]; exact Nat.lt_succ_of_lt (lt b hb)⟩
    exact (upd_ne (Nat.ne_of_lt (lt b hb))).trans (f2 b hb).1
  have st3 : tn 0 s3.heap := T.keep _ _ _ st2 fun b _ o e => by rw [e3]; exact kp b o e
  have I4 : Inv (X.blk s3 (Empty0 X.w D H2) scope (compEnvC scope (cellsFrom (s3.heap.objs.size + 1) scope.names (cloFrom X.env.cells scope.names [])) s3.heap.objs.size X.env) fp) [] (wipe σ (own.map (·.2))) (Empty0 X.w D H2) { s3 with heap := pushCells (s3.heap.push { cls := .type "dict", data := .dict #[] }) scope.names } := block_start I3 ok hN f3
  have pg := hg s3 (Empty0 X.w D H2) s3.heap.objs.size (cellsFrom (s3.heap.objs.size + 1) scope.names (cloFrom X.env.cells scope.names [])) fp
  have pt := ht s3 (Empty0 X.w D H2) s3.heap.objs.size (cellsFrom (s3.heap.objs.size + 1) scope.names (cloFrom X.env.cells scope.names [])) fp
  have pe := he s3 (Empty0 X.w D H2) s3.heap.objs.size (cellsFrom (s3.heap.objs.size + 1) scope.names (cloFrom X.env.cells scope.names [])) fp
  show codeAny _ _ (.compStart _ 0 (.ref it) (.ref D) (compEnvC scope (cellsFrom (s3.heap.objs.size + 1) scope.names (cloFrom X.env.cells scope.names [])) s3.heap.objs.size X.env)) _ { s3 with heap := pushCells (s3.heap.push { cls := .type "dict", data := .dict #[] }) scope.names }
  have st4 : tn 0 (pushCells (s3.heap.push { cls := .type "dict", data := .dict #[] }) scope.names) := T.keep _ _ _ st3 fun b _ o e => pushCells_keeps _ _ _ _ (Heap.get?_push_of_some _ e)
  have n0 : ∀ b ∈ fp, Empty0 X.w D H2 b = none := fun b hb => (f3 b hb).1.1
  generalize hce : compEnvC scope (cellsFrom (s3.heap.objs.size + 1) scope.names (cloFrom X.env.cells scope.names [])) s3.heap.objs.size X.env = ce at I4 pg pt pe ⊢
  have cL : ce.locals = s3.heap.objs.size := by rw [← hce]; rfl
  generalize Empty0 X.w D H2 = H3 at I3 I4 pg pt pe w0 n0 f3
  generalize hs4 : ({ s3 with heap := pushCells (s3.heap.push { cls := .type "dict", data := .dict #[] }) scope.names } : Shared) = s4 at I4 ⊢
  have st4 : tn 0 s4.heap := by rw [← hs4]; exact st4
  have loop : codeAny (model X.prog X.w) X.A (.compLoop (.SetComp elt [⟨tg, iter, ifs, 0⟩] scope pos) 0 (.ref it) (.ref D) ce) (compPost (model X.prog X.w) X.A X.xe none (EP X pins σ Q) (.ref D) s3.heap.objs.size) s4 := by
    refine PpSet.compLoopS_any (fun n s' => ∃ i H', Inv (X.blk s3 H3 scope ce fp) [] (wipe σ (own.map (·.2))) H' s' ∧ tn i s'.heap ∧ (∀ b ∈ fp, H' b = none) ∧ W i n H') ?_ m0 ⟨0, H3, I4, st4, n0, w0⟩
    rintro n s5 ⟨i, H5, I5, st5, n5, w5⟩
    have fp5 := blk_fp I5 n5
    rcases turn i n H5 w5 with ⟨stop, qq⟩ | ⟨go, Nx, hNx, step⟩
    · refine thnF (T.done (X.blk s3 H3 scope ce fp) rfl rfl rfl hc i [] s5 _ H5 (fun _ _ => False) I5 fp5 st5 stop) fun r s6 ⟨hr, I6⟩ => ?_
      subst hr
      have I7 : Inv X pins σ H5 s6 := I3.call' (ch := fp) I6.os I6.base I6.hok I6.bare fun b hb => let z := (f3 b hb).1.2; ⟨z.2.2.1, z.1, z.2.2.2.1, z.2.2.2.2⟩
      have nC : H5 s3.heap.objs.size = none := cL ▸ I6.free
      obtain ⟨m, hn, _⟩ := I6.loc
      have hn : s6.heap.Ns s3.heap.objs.size m := cL ▸ hn
      obtain ⟨k0, k1, k2, k3, k4, k5⟩ := I3.fpOk (Nat.le_refl _) nC
      exact ⟨m, hn, fun h'' sb => ⟨.ref D, H5, I7.turned (t' := s6.toks) (fun b o hb e => (sb.2 b hb).trans e) k0 k1 k3 k4 k5, rfl, qq⟩⟩
    · refine thnF (T.item (X.blk s3 H3 scope ce fp) rfl rfl rfl hc i [] s5 _ H5 (fun _ _ => False) I5 fp5 st5 go) fun r s6 ⟨u, hr, h6⟩ => ?_
      subst hr
      refine thnF h6 fun _ s7 ⟨x, H7, I7, r7, y7, st7, n7⟩ => ?_
      refine sc_turn (B := X.blk s3 H3 scope ce fp) (D := D) (Nx := Nx) (fun _ _ z => z) pg pt pe (I7.pinned (blk_fp I7 n7) (T.obj _ _ st7)) r7 (step x H7 y7) fun σ2 s' H' hw I' nx => ?_
      obtain ⟨m', hm, w'⟩ := hNx H' nx
      have keep : ∀ b ∈ fp, ∀ o, s7.heap.get? b = some o → s'.heap.get? b = some o ∧ H' b = none := fun b hb o e =>
        let z := I'.pin (b, o) (List.mem_append_right _ (List.mem_append_right _ (mem_pinsAt hb e)))
        ⟨z.1, z.2.1⟩
      refine ⟨m', hm, i + 1, H', (I'.unpinned (pins := [])).weak (by rw [← hw, wipe_length]) (fun j v e => by rw [← hw] at e; exact (wipe_some e).1), T.keep _ _ _ st7 fun b hb o e => (keep b hb o e).1, fun b hb => ?_, w'⟩
      obtain ⟨o, e, _⟩ := T.obj _ _ st7 b hb
      exact (keep b hb o e).2
  exact PpSet.codeAny_compStart_set loop (T.self X.A 0 _ _ _ st4 loop)
end
end Lad
end
/-! ## LadSo -/
section
set_option maxRecDepth 100000
set_option maxHeartbeats 2000000
namespace Lad
open PySem PySem.Spec PyProof.Rows L2
/-! ### sorted({e for x in xs}), e an int -/
def insS (k : Int) : List Int → List Int
  | [] => [k]
  | x :: r => if k < x then k :: x :: r else if k = x then x :: r else x :: insS k r
theorem mem_insS (k j : Int) : ∀ l : List Int, j ∈ insS k l ↔ j ∈ l ∨ j = k
  | [] => by simp [insS]
  | x :: r => by
    unfold insS
    split
    · simp only [List.mem_cons]; constructor
      · rintro (h | h | h) <;> simp [h]
      · rintro ((h | h) | h) <;> simp [h]
    · split
      · rename_i e; subst e; simp only [List.mem_cons]; constructor
        · intro h; exact .inl h
        · rintro (h | h)
          · exact h
          · exact .inl h
      · rw [List.mem_cons, mem_insS k j r, List.mem_cons]; constructor
        · rintro (h | h | h) <;> simp [h]
        · rintro ((h | h) | h) <;> simp [h]
theorem srt_insS (k : Int) : ∀ {l : List Int}, l.Pairwise (· < ·) → (insS k l).Pairwise (· < ·)
  | [], _ => by simp [insS]
  | x :: r, h => by
    have h1 := List.pairwise_cons.mp h
    unfold insS
    split
    · rename_i hk
      exact List.pairwise_cons.mpr ⟨fun y hy => by
        rcases List.mem_cons.mp hy with rfl | hy
        · exact hk
        · exact Int.lt_trans hk (h1.1 y hy), h⟩
    · split
      · exact h
      · refine List.pairwise_cons.mpr ⟨fun y hy => ?_, srt_insS k h1.2⟩
        rcases (mem_insS k y r).mp hy with hy | rfl
        · exact h1.1 y hy
        · omega
theorem len_insS (k : Int) : ∀ {l : List Int}, l.Pairwise (· < ·) → (insS k l).length = if decide (k ∈ l) = true then l.length else l.length + 1
  | [], _ => by simp [insS]
  | x :: r, h => by
    have h1 := List.pairwise_cons.mp h
    unfold insS
    split
    · rename_i hk
      have n : ¬ k ∈ x :: r := fun m => by
        rcases List.mem_cons.mp m with rfl | m
        · omega
        · have := h1.1 k m; omega
      rw [if_neg (by simpa using n)]
      rfl
    · split
      · rename_i e; subst e; rw [if_pos (by simp)]
      · rename_i n1 n2
        rw [List.length_cons, len_insS k h1.2]
        have e : (k ∈ x :: r) ↔ k ∈ r := by simp [n2]
        by_cases m : k ∈ r
        · rw [if_pos (by simpa using m), if_pos (by simp [m])]; rfl
        · rw [if_neg (by simpa using m), if_neg (by simp [n2, m])]; rfl
theorem srt_same : ∀ {l l' : List Int}, l.Pairwise (· < ·) → l'.Pairwise (· < ·) → (∀ k, k ∈ l ↔ k ∈ l') → l = l'
  | [], [], _, _, _ => rfl
  | [], y :: r, _, _, m => by have := (m y).mpr List.mem_cons_self; cases this
  | x :: r, [], _, _, m => by have := (m x).mp List.mem_cons_self; cases this
  | x :: r, y :: r', h, h', m => by
    have a := List.pairwise_cons.mp h
    have b := List.pairwise_cons.mp h'
    have e : x = y := by
      rcases List.mem_cons.mp ((m x).mp List.mem_cons_self) with e | hx
      · exact e
      · rcases List.mem_cons.mp ((m y).mpr List.mem_cons_self) with e | hy
        · exact e.symm
        · have := a.1 y hy; have := b.1 x hx; omega
    subst e
    rw [srt_same a.2 b.2 fun k => ⟨fun hk => by
      rcases List.mem_cons.mp ((m k).mp (List.mem_cons_of_mem _ hk)) with e | q
      · have := a.1 k hk; omega
      · exact q, fun hk => by
      rcases List.mem_cons.mp ((m k).mpr (List.mem_cons_of_mem _ hk)) with e | q
      · have := b.1 k hk; omega
      · exact q⟩]
def setG (it : Nat → Hea → Option (Option Val)) (b : Val → En → Option En) (tt f : En → Hea → Res Val) (e0 : En) : Nat → Nat → List Int → Hea → Res (List Val)
  | 0, _, _, _ => .stuck
  | n + 1, k, acc, h => match it k h with
    | some none => .ok (acc.map Val.int) h
    | some (some v) => match b v e0 with
      | some e1 => (noX (tt e1 h)).bind fun c h1 => match c with
        | .bl true => (noX (f e1 h1)).bind fun y h2 => match y with
          | .int c => if (insS c acc).length < 64 then setG it b tt f e0 n (k + 1) (insS c acc) h2 else .stuck
          | _ => .stuck
        | .bl false => setG it b tt f e0 n (k + 1) acc h1
        | _ => .stuck
      | none => .stuck
    | none => .stuck
def lSortSet (own : List Nat) (src : En → Hea → Res Src) (b : Val → En → Option En) (tt f : En → Hea → Res Val) : En → Hea → Res (List Val) := fun e h => (src e h).bind fun s h1 => setG s.item b tt f (wipeE e own) s.fuel 0 [] h1
abbrev SetA (w : World) (D : Addr) (ms : List Int) : HO := SetO w D (fun j => decide (j ∈ ms)) ms.length
theorem grown_eq {w : World} {D : Addr} {c : Int} {ms : List Int} {H : Hp} (s : ms.Pairwise (· < ·)) : Grown w D c (fun j => decide (j ∈ ms)) ms.length H = upd H D (SetA w D (insS c ms)) := by
  unfold Grown
  have e1 : (fun j => decide (j ∈ ms) || decide (j = c)) = fun j => decide (j ∈ insS c ms) := by
    funext j
    rw [← Bool.decide_or]
    exact decide_eq_decide.mpr (mem_insS c j ms).symm
  rw [e1, ← len_insS c s]
section
variable {T : Tb} {X : Cx} {W : WX} {tg iter elt : Expr} {ifs : List Expr} {scope : Scope} {own : List (Str × Nat)} {src : En → Hea → Res Src} {tt f : En → Hea → Res Val} {g : TG} {b : Val → En → Option En} {pos : Pos}
theorem so_imp (ok : GOk (sy T X) (own.map (·.2)) g b) {σ : L2.St} {H : Hp} {Q : VK} (q : tL (sy T X) W (lSortSet (own.map (·.2)) src b tt f) σ H Q) :
    tSet X.w (tI (sy T X) W src) g (tB (tE (sy T X) W0 tt)) (tE (sy T X) W0 f) (own.map (·.2)) σ H (fun v H2 => rSortedSet X.w [v] H2 Q) := by
  obtain ⟨ρ, e, h, R, E, a⟩ := q
  refine ⟨ρ, e, h, R, E, (AftL.bindI a).mono fun J H1 ⟨ρ1, d, h1, s, R1, j, a1⟩ => fun D hD => ?_⟩
  have ew := (E.go s).wipe (own.map (·.2))
  refine ⟨fun k m Hc => ∃ ρ2 h2 ms, Hid (sy T X) ρ1 H1 D (SetA X.w D ms) ρ2 h2 Hc ∧ ms.Pairwise (· < ·) ∧ ms.length < 64 ∧ AftL (sy T X) ρ1 H1 (setG d.item b tt f (wipeE e (own.map (·.2))) m k ms h2) Q (fun c d H' => W c d σ H'),
    ⟨d.fuel, ρ1.hide D, h1, [], .start R1 hD, .nil, by decide, a1⟩, fun k m Hc w => ?_⟩
  obtain ⟨ρ2, h2, ms, M2, sm, lm, a2⟩ := w
  cases m with
  | zero => exact a2.elim
  | succ m =>
    have jk := j ρ2 Hc h2 M2.mv M2.R k
    unfold setG at a2
    cases hit : d.item k h2 with
    | none => rw [hit] at a2; exact a2.elim
    | some o =>
      rw [hit] at a2 jk
      cases o with
      | none =>
        refine .inl ⟨jk, D, _, _, rfl, M2.at_, lm, fun ns p h1 h2 _ hp => ?_⟩
        obtain rfl := srt_same h1 sm fun k => (h2 k).trans decide_eq_true_iff
        obtain ⟨m1, R3, f3⟩ := M2.out
        exact AftL.made (AftL.later a2 M2.g) R3 (reps_ints _) p hp
      | some v =>
        refine .inr ⟨jk.1, fun Hc => ∃ ρ2 h2 ms, Hid (sy T X) ρ1 H1 D (SetA X.w D ms) ρ2 h2 Hc ∧ ms.Pairwise (· < ·) ∧ ms.length < 64 ∧ AftL (sy T X) ρ1 H1 (setG d.item b tt f (wipeE e (own.map (·.2))) m (k + 1) ms h2) Q (fun c d H' => W c d σ H'),
          fun H' z => ⟨m, Nat.lt_succ_self m, z⟩, fun x H' y => ?_⟩
        obtain ⟨g3, R3, r3⟩ := jk.2 x H' y
        dsimp only at a2
        cases hbv : b v (wipeE e (own.map (·.2))) with
        | none => rw [hbv] at a2; exact a2.elim
        | some e3 =>
          rw [hbv] at a2
          have M3 := M2.go g3 R3
          refine ok ρ2 H' h2 _ _ v x e3 _ R3 (ew.mono M3.mv) r3 hbv fun σ3 E3 w3 => ⟨w3.trans (wipe_wipe _ _), ρ2, e3, h2, R3, E3, ?_⟩
          dsimp only at a2
          obtain ⟨cb, hb1, ht, a3⟩ := a2.noX
          rw [ht]
          refine fun ρ5 v5 H5 s5 R5 r5 => ?_
          have M5 := M3.go s5 R5
          split at a3
          · obtain rfl := r5.bl_
            refine ⟨true, rfl, itT rfl ?_⟩
            obtain ⟨y6, hb6, hf, a4⟩ := a3.noX
            refine ⟨ρ5, e3, hb1, R5, E3.go s5, ?_⟩
            rw [hf]
            refine fun ρ6 v6 H6 s6 R6 r6 => ?_
            split at a4
            · rename_i c
              split at a4
              · rename_i hl
                obtain rfl := r6.int_
                have M6 := M5.go s6 R6
                refine ⟨c, _, _, rfl, M6.at_, by show ms.length + 1 < 4096; omega, ?_⟩
                rw [grown_eq sm]
                exact ⟨ρ6, hb6, insS c ms, (M6.put True.intro).1, srt_insS c sm, hl, a4⟩
              · exact a4.elim
            · exact a4.elim
          · obtain rfl := r5.bl_
            exact ⟨false, rfl, itF rfl ⟨ρ5, hb1, ms, M5, sm, lm, a3⟩⟩
          · exact a3.elim
theorem sl_sortSet {p pos2 : Pos} (hc : X.calm = true) (hN : X.N.Nodup) (hm : X.mg "sorted" = none) (hi : SI T X W tg iter src) (ok : BlkOk X.N X.env.scope scope own)
    (hg : ∀ (s : Shared) (H : Hp) (C : Addr) (cl : List (PySem.Str × Addr)) (fp : List Addr), PG (X.blk s H scope (compEnvC scope cl C X.env) fp) tg g) (gk : GOk (sy T X) (own.map (·.2)) g b) (ht : ∀ (s : Shared) (H : Hp) (C : Addr) (cl : List (PySem.Str × Addr)) (fp : List Addr), STs T (X.blk s H scope (compEnvC scope cl C X.env) fp) W0 ifs tt)
    (he : ∀ (s : Shared) (H : Hp) (C : Addr) (cl : List (PySem.Str × Addr)) (fp : List Addr), SE T (X.blk s H scope (compEnvC scope cl C X.env) fp) W0 elt f) (hg0 : Gl X "sorted" := by rfl) (hs : ∀ x, foldedSetIterable iter X.env x = pure x := by intro _; rfl)
    (hst : starEach [.SetComp elt [⟨tg, iter, ifs, 0⟩] scope pos2] X.env = (false, eval (.SetComp elt [⟨tg, iter, ifs, 0⟩] scope pos2) X.env) :: starEach [] X.env := by rfl) (hpl : (backTo pos (starEach [] X.env)).any (·.1) = false := by rfl) :
    SL T X W (.Call (.Name "sorted" p) [.SetComp elt [⟨tg, iter, ifs, 0⟩] scope pos2] [] pos) (lSortSet (own.map (·.2)) src b tt f) :=
  (pe_callB (cr_sortedSet hc) hg0 hm (by decide +kernel) (pa_cons (pe_set hc hN hi ok hg ht he hs) pa_nil hst) (by decide) (by decide) hst hpl).imp fun σ H Q q => by
    exact so_imp gk q
end
end Lad
end
/-! ## LadUnl -/
section
set_option maxRecDepth 100000
set_option maxHeartbeats 1000000
namespace Lad
open PySem L2
/-! ### a, b, .. = a list; f() -/
def gL (is : List Nat) : Val → En → Option En := fun v e => match v with
  | .lst xs => setAll is xs e
  | _ => none
theorem gok_unl {S : Sy} {is vs : List Nat} (hi : ∀ i ∈ is, i ∈ vs) : GOk S vs (gUnl S.K is.length (gsNames is)) (gL is) := fun ρ H h e σ d v e' Q R E r b q => by
  unfold gL at b
  split at b
  · cases r with
    | lst f h1 rr =>
      refine ⟨_, _, rfl, SqL.of h1, ?_, gs_names is e σ _ _ e' Q hi E rr b q⟩
      rw [← rr.length]
      exact setAll_len b
  · cases b
def eCall0 (cf : List Val → Hea → Res Val) : En → Hea → Res Val := fun _ h => cf [] h
section
variable {T : Tb} {X : Cx} {W : WX} {x : Str} {f : Addr} {fd : FuncData} {k : Nat} {cf : List Val → Hea → Res Val} {p pos : Pos}
theorem se_call0 (F : FnOk X.prog X.w X.K X.mg X.base (L2.CX X.prog X.w) k f fd [] (spEv (sy T X) cf)) (hr : Room k X.A) (hg : Gl X x) (hm : X.mg x = some (.ref f)) (hk : PySem.W.keepIn X.K (.ref f) = true) (hb : Binds X.K fd [] []) (tk : Takes X W) (hdb : (x == ("__debug__" : Str)) = false := by decide) :
    SE T X W (.Call (.Name x p) [] [] pos) (eCall0 cf) := by
  refine ⟨fun pins s σ H Q I q => ?_⟩
  obtain ⟨ρ, e, h, R, E, a⟩ := q
  refine wpAny_Call_Name_kw (ld_glob I hg hm ?_ hdb)
  refine PySem.W.callWith_K0 I.kIn hk ?_
  exact run_fnS (E := fun σ => WE W σ) (us := []) (vs := []) F hr hb (passAt tk σ) I .nil ⟨ρ, h, [], R, .nil, a⟩
end
end Lad
end
/-! ## LadR3 -/
section
set_option maxRecDepth 100000
set_option maxHeartbeats 2000000
namespace Lad
open PySem PySem.Spec PyProof.Rows L2
/-! ### range(a, b, -1) -/
def downV (lo : Int) (n : Nat) : List Val := (List.range n).map fun (i : Nat) => Val.int (lo + (i : Int) * (-1))
def iRng3V (f : En → Hea → Res (List Val)) : En → Hea → Res Src := fun e h => (f e h).bind fun ds h1 => match ds with
  | [.int i, .int j, .int (-1)] => if (rngOk i && rngOk j) = true then .ok (srcFix (downV i (i - j).toNat)) h1 else .stuck
  | _ => .stuck
section
variable {S : Sy} {ρ : Own} {H : Hp}
theorem j_down {lo : Int} {n : Nat} : JOk S ρ H (Itc lo (-1) n) (srcFix (downV lo n)).item := jfix fun ρ' H' h' g R k _ => by
  show match some (downV lo n)[k]? with | some none => _ | some (some d) => _ | none => _
  by_cases hk : k < n
  · have e : (downV lo n)[k]? = some (.int (lo + (k : Int) * (-1))) := by
      unfold downV
      rw [List.getElem?_map, List.getElem?_range hk]
      rfl
    rw [e]
    refine ⟨hk, fun x H'' ⟨eh, q⟩ => ?_⟩
    subst eh q
    exact ⟨.rfl, R, .int _⟩
  · have e : (downV lo n)[k]? = none := by
      unfold downV
      rw [List.getElem?_eq_none_iff]
      simp
      omega
    rw [e]
    exact Nat.le_of_not_lt hk
end
section
variable {T : Tb} {X : Cx} {W : WX} {tg a b c : Expr} {g : En → Hea → Res (List Val)} {pos p : Pos}
theorem si_range3 (hg : Gl X "range") (hm : X.mg "range" = none) (ha : SA T X W [a, b, c] g) (hs : starEach [a, b, c] X.env = (false, eval a X.env) :: starEach [b, c] X.env := by rfl) (hpl : (backTo pos (starEach [b, c] X.env)).any (·.1) = false := by rfl) :
    SI T X W tg (.Call (.Name "range" p) [a, b, c] [] pos) (iRng3V g) := (pi_range3 hg hm ha hs hpl).imp fun σ H Q q => by
  obtain ⟨ρ, e, h, R, E, a⟩ := q
  refine ⟨ρ, e, h, R, E, (AftI.bindA a).mono fun v H1 ⟨ρ1, d, h1, s, R1, r, a1⟩ => ?_⟩
  split at a1
  · obtain rfl := Reps.ints (ns := [_, _, _]) r
    split at a1
    · rename_i hr
      rw [Bool.and_eq_true] at hr
      have h1 := of_decide_eq_true hr.1
      have h2 := of_decide_eq_true hr.2
      exact ⟨_, _, _, _, rfl, RgC.neg h1.1 h1.2 h2.1 h2.2, a1 ρ1 H1 _ .rfl R1 j_down⟩
    · exact a1.elim
  · exact a1.elim
end
/-! ### xs * n as a list to be changed -/
def lMul (f1 f2 : En → Hea → Res Val) : En → Hea → Res (List Val) := fun e h => (f1 e h).bind fun x h1 => (f2 e h1).bind fun y h2 => match y with
  | .int k => match lstP h2 x with
    | some xs => if -(2 ^ 63) ≤ k ∧ k < 2 ^ 63 ∧ xs.length * k.toNat ≤ 16777216 then .ok (List.replicate k.toNat xs).flatten h2 else .stuck
    | none => .stuck
  | _ => .stuck
section
variable {T : Tb} {X : Cx} {W : WX} {a b : Expr} {f1 f2 : En → Hea → Res Val} {pos : Pos}
theorem sl_mul (ha : SE T X W a f1) (hb : SE T X W b f2) : SL T X W (.BinOp a .Mult b pos) (lMul f1 f2) := (pe_op op_rep ha hb).imp fun σ H Q q => by
  obtain ⟨ρ, e, h, R, E, a⟩ := q
  refine ⟨ρ, e, h, R, E, (AftL.bind1 a).mono fun u H1 ⟨ρ1, x, h1, s1, R1, r1, a1⟩ => ⟨ρ1, e, h1, R1, E.go s1, (AftL.bind1 a1).mono fun v H2 ⟨ρ2, y, h2, s2, R2, r2, a2⟩ => ?_⟩⟩
  split at a2
  · obtain rfl := r2.int_
    split at a2
    · rename_i xs e1
      split at a2
      · rename_i hk
        obtain ⟨p1, v1, rfl, q0, q1⟩ := R2.lstQ (r1.go s2) e1
        exact ⟨p1, _, v1, rfl, rfl, q0, hk.1, hk.2.1, by rw [sizeLine_eq, ← q1.length]; exact hk.2.2, fun p n => a2.made R2 (q1.times _) p n⟩
      · exact a2.elim
    · exact a2.elim
  · exact a2.elim
end
end Lad
end
/-! ## LadAdd -/
section
set_option maxRecDepth 100000
set_option maxHeartbeats 2000000
namespace Lad
open PySem PySem.Spec PyProof.Rows L2
open PySem.W (Frag)
/-! ### x + y by an own __add__, y a list or a tuple -/
theorem fills_list : fillsNumberSlot (.type "list") "add" = pure false := by
  unfold fillsNumberSlot
  simp only [typeLookup_type, builtinLookup_eq_fast]
  kernel_rfl
theorem fills_tuple : fillsNumberSlot (.type "tuple") "add" = pure false := by
  unfold fillsNumberSlot
  simp only [typeLookup_type, builtinLookup_eq_fast]
  kernel_rfl
section
variable {prog : Program} {w : World} {A : Around} {E : Value → Shared → Prop} {s : Shared} {K : Frag} {x C f : Addr} {ox : Obj} {od : Option Obj}
theorem add_ownL {T : String} {b : Value} {Q : Value → Shared → Prop} (X : K.In s.heap) (I : PySem.W.InstAt s.heap x ox C od) (hb : PySem.W.Looks (model prog w) s.heap (typeOf b) (.type T)) (hT : fillsNumberSlot (.type T) "add" = pure false) (hc : PySem.W.selfFirst K C = true)
    (hs : PySem.W.findIn K (.ref C) "__add__" = some (some (.ref f))) (hf : PySem.W.isFn K (.ref f) = true) (h : wpAny (model prog w) A (call (.ref f) [.ref x, b]) (PySem.W.CmpBack Q) E s) : wpAny (model prog w) A (binaryOp .Add (.ref x) b) Q E s := by
  obtain ⟨cd, hcd, hm⟩ := PySem.W.any_some hc
  obtain ⟨rest, hm⟩ : ∃ rest, cd.mro = .ref C :: rest := by
    cases q : cd.mro with
    | nil => rw [q] at hm; cases hm
    | cons a r =>
      rw [q, List.head?_cons] at hm
      exact ⟨r, by cases (beq_iff_eq.mp hm); rfl⟩
  have left : PySem.W.Looks (model prog w) s.heap (fillsNumberSlot (.ref C) "add") true := PySem.W.fills_K (nm := "add") X hcd hm hs
  have ne : (Value.ref C == Value.type T) = false := rfl
  unfold binaryOp
  refine wpAny_holding (wpAny_bind ?_)
  show wpAny _ _ (binaryOp1 "add" (.ref x) b) _ _ _
  unfold binaryOp1
  refine wpAny_bind (I.type.here (wpAny_bind (hb.here (wpAny_bind (left.here ?_)))))
  rw [ne, if_neg Bool.false_ne_true]
  refine wpAny_bind (wpAny_of_eq hT ?_)
  have hs' : PySem.W.findIn K (.ref C) (PySem.dunder "add") = some (some (.ref f)) := hs
  have tm := fun {Q'} (k : ∀ v s', PySem.W.CmpBack Q v s' → Q' (some v) s') => PySem.W.special_fn (Q := Q') X I hs' (beq_iff_eq.mp hf) (wpAny_mono h k fun _ _ e => e)
  wp_walk using tm
  intro v s' hv
  cases v <;> first | exact hv.elim | (wp_walk; exact hv)
end
section
variable {X : Cx} {C f : Addr} {fd : FuncData} {ps : List Str} {k : Nat} {sp : Sp} {E : L2.St → XK} {CX : _} {a b : Expr} {ta tb : TE} {pos : Pos}
def rAddO (K : Frag) (C : Addr) (sp : Sp) (E : L2.St → XK) : L2.St → V → V → Hp → VK → Prop := fun σ x y H Q => ∃ a dx fs ty, x = .ref a ∧ H a = some (.ins C dx fs) ∧ TyX K H y (.type ty) ∧ (ty = "list" ∨ ty = "tuple") ∧ sp [x, y] H Q (E σ)
theorem pe_addO (D : Dun X.K C "__add__" f) (hc : PySem.W.selfFirst X.K C = true) (F : FnOk X.prog X.w X.K X.mg X.base (L2.CX X.prog X.w) k f fd ps sp) (hr : Room k X.A) (hb : Binds X.K fd ps []) (hx : ∀ σ, PassesAt (L2.CX X.prog X.w) X σ (E σ)) (h1 : PE X a ta) (h2 : PE X b tb) : PE X (.BinOp a .Add b pos) (tBO (rAddO X.K C sp E) ta tb) := by
  refine ⟨fun pins s σ H Q I h => wpAny_BinOp (binT h1 h2 I h fun v u s2 x y H2 I2 rx ry q => ?_)⟩
  obtain ⟨a, dx, fs, ty, rfl, ha, hty, hl, q⟩ := q
  obtain rfl : v = Value.ref a := rx
  obtain ⟨od, J⟩ := inst_of I2 ha
  obtain ⟨P, Z, p, _⟩ := kit_of I2 ry hty
  refine add_ownL (T := ty) I2.kIn J (Z.ty _ _ I2.kIn p) (by rcases hl with rfl | rfl; exact fills_list; exact fills_tuple) hc D.at_ D.fn ?_
  refine wpAny_mono (run_ow (us := [.ref a, u]) (vs := [.ref a, y]) F hr I2.env0 hb (hx σ) I2 (.cons rfl (.cons ry .nil)) q) (fun w s' z => ?_) fun _ _ x => x
  obtain ⟨z', H', I', rz, qz⟩ := z
  exact SlX.cmpback rz ⟨z', H', I', rz, qz⟩
end
def isSq : TK → Bool
  | .list => true
  | .tuple => true
  | _ => false
def eAddO (c : Nat) (cf : List Val → Hea → Res Val) (f1 f2 : En → Hea → Res Val) : En → Hea → Res Val := fun e h => (f1 e h).bind fun x h1 => (f2 e h1).bind fun y h2 => match insOf h2 x, tyK h2 y with
  | some (c', _), some t => if c' = c ∧ isSq t = true then cf [x, y] h2 else .stuck
  | _, _ => .stuck
section
variable {T : Tb} {X : Cx} {W : WX} {f : Addr} {fd : FuncData} {ps : List Str} {k c : Nat} {cf : List Val → Hea → Res Val} {a b : Expr} {f1 f2 : En → Hea → Res Val} {pos p : Pos}
theorem se_addO (D : Dun X.K (T.ca c) "__add__" f) (hc : PySem.W.selfFirst X.K (T.ca c) = true) (F : FnOk X.prog X.w X.K X.mg X.base (L2.CX X.prog X.w) k f fd ps (spEv (sy T X) cf)) (hr : Room k X.A) (hb : Binds X.K fd ps []) (tk : Takes X W) (h1 : SE T X W a f1) (h2 : SE T X W b f2) : SE T X W (.BinOp a .Add b pos) (eAddO c cf f1 f2) :=
  (pe_addO (E := WE W) D hc F hr hb (fun σ => passAt tk σ) h1 h2).imp fun σ H Q q => two_imp (k := fun x y h2 => match insOf h2 x, tyK h2 y with
  | some (c', _), some t => if c' = c ∧ isSq t = true then cf [x, y] h2 else .stuck
  | _, _ => .stuck) q fun ρ h x y H1 u v R r1 r2 a => by
    split at a
    · rename_i c' fs t hx ht
      split at a
      · rename_i hc
        obtain ⟨rfl, hc⟩ := hc
        obtain ⟨p, dx, ps, rfl, hi, _⟩ := ins_of R r1 hx
        refine ⟨p, dx, ps, t.nm, rfl, hi, tyK_ok R r2 ht, ?_, ρ, h, _, R, .cons r1 (.cons r2 .nil), a⟩
        cases t <;> first | exact absurd hc Bool.false_ne_true | exact .inl rfl | exact .inr rfl
      · exact a.elim
    · exact a.elim
end
end Lad
end
/-! ## LadEnd -/
section
set_option maxRecDepth 100000
set_option maxHeartbeats 2000000
namespace Lad
open PySem L2
open PySem.W (Frag)
/-! ### the end: from the plain law to the row -/
def noList (K : Frag) : Bool := K.all fun p => decide (p.2.cls ≠ .type "list")
theorem noList_ok {K : Frag} (h : noList K = true) {a : Addr} {o : Obj} (e : K.lookup a = some o) : o.cls ≠ .type "list" := by
  have m : (a, o) ∈ K := by
    clear h
    induction K with
    | nil => cases e
    | cons p r ih =>
      obtain ⟨b, ob⟩ := p
      rw [List.lookup_cons] at e
      by_cases q : a = b
      · subst q
        simp at e
        subst e
        exact List.mem_cons_self
      · have q2 : (a == b) = false := by simpa using q
        rw [q2] at e
        exact List.mem_cons_of_mem _ (ih e)
  exact of_decide_eq_true (List.all_eq_true.mp h _ m)
/-- the law's promise out of the plain law -/
theorem sp_law {S : Sy} {cf : List Val → Hea → Res Val} {n : Nat} (nl : noList S.K = true) (p : ∀ ns : List Int, ns.length ≤ n → ∃ h, cf [.ref 0] [.fro ns] = .ok (.bl true) h) {H : Hp} {a : Addr} {ns : List Int} (hl : ns.length ≤ n)
    (hO : Only H) (hS : SqL S.K H a (ns.map V.int)) : spEv S cf [.ref a] H (fun v _ => v = .bl true) fun _ _ _ => False := by
  have hz : ∃ o, H a = some (.frz o (.lst (ns.map V.int))) := by
    rcases hS with hR | ⟨o, its, m, lk, hc, _⟩
    · rcases hR with hR | ⟨o, hR⟩
      · rcases hO a with z | ⟨o, xs, z⟩
        · rw [z] at hR; cases hR
        · rw [z] at hR; cases hR
      · exact ⟨o, hR⟩
    · exact absurd hc (noList_ok nl lk)
  obtain ⟨o, hz⟩ := hz
  refine ⟨⟨[a], []⟩, [.fro ns], [.ref 0], ⟨rfl, ?_, ?_, fun _ m => nomatch m⟩, .cons (.ref rfl) .nil, ?_⟩
  · intro i j b e1 e2
    match i, j with
    | 0, 0 => rfl
    | i + 1, _ => simp at e1
    | _, j + 1 => simp at e2
  · intro i ob b e1 e2
    match i with
    | 0 =>
      simp at e1 e2
      subst e1 e2
      exact .fro hz
    | i + 1 => simp at e1
  · obtain ⟨h, e⟩ := p ns hl
    rw [e]
    intro ρ1 v H1 s R1 r
    exact r.bl_
/-- a row's end: what walk_ofE does, for a def that may raise inside -/
theorem walk_W {l : PySem.W.OpenLaw} {n k : Nat} {q : Program} {loose : List Str} {XP : (Str → Option Value) → Heap → Prop} {YP : World → Heap → Prop} {d : DefRec} {x : Str}
    (hn : l.most = some n) (hn2 : n ≤ sizeLine) (hdf : d.params.defaults = []) (hr : Room k callerA)
    (F : ∀ (w : World) (mg : Str → Option Value) (f : Addr) (h : Heap), YP w h → h.Ns mainGlobals mg → mg d.name = some (.ref f) →
      ∃ (K : Frag) (fd : FuncData) (sp : Sp), K.In h ∧ (∀ (s : Shared) (u : Value), BindsTo s fd ⟨[u], []⟩ [(x, u)]) ∧
        (∀ (H : Hp) (a : Addr) (ns : List Int), ns.length ≤ n → Only H → SqL K H a (ns.map V.int) → sp [.ref a] H (fun v _ => v = .bl true) fun _ _ _ => False) ∧
        ∀ base : Heap, K.In base → base.Ns mainGlobals mg → FnOk l.prog w K mg base (L2.CX l.prog w) k f fd [x] sp) :
    PySem.W.WalkO q loose XP YP l.row.toRowW d [] (fun f vs => PySem.call f vs) := by
  refine Att.attach_call hn hdf ?_
  intro w sA sB mg mb f o pm cd doc a vs ns G Y ho hd hcd hmg hobj hints hlen hgn
  have z := F w mg f _ Y G.T.g hmg
  obtain ⟨K, fd, sp, hK, bind, told, keeps⟩ := z
  refine law_call hK G.T.g G.T.b G.T.builtins G.T.nolimit hgn hobj hints (Nat.le_trans hlen hn2) hr keeps bind ?_ ?_
  · exact fun H only sq => told H a ns hlen only sq
  · intro H e s' h
    obtain ⟨_, _, _, _, _, _, _, _, _, _, _, _, z⟩ := h
    exact z.elim
end Lad
end
/-! ## LadStk -/
section
namespace Lad
open PySem L2
/-! ### what is never reached -/
def eStuck : En → Hea → Res Val := fun _ _ => .stuck
def sStuck : En → Hea → SRes := fun _ _ => .stuck
theorem se_stuck {T : Tb} {X : Cx} {W : WX} {e : Expr} : SE T X W e eStuck := ⟨fun pins s σ H Q I q => by
  obtain ⟨ρ, e, h, R, E, a⟩ := q
  exact a.elim⟩
theorem st_stuck {T : Tb} {X : Cx} {W : WX} {s : Stmt} : SSt T X W s sStuck := ⟨fun pins s σ H Q I q => by
  obtain ⟨ρ, e, h, R, E, a⟩ := q
  exact a.elim⟩
end Lad
end
/-! ## LadLt -/
section
set_option maxRecDepth 100000
namespace Lad
open PySem L2
/-! ### t < u of tuples of ints -/
def oLtT (h : Hea) (a b : Val) : Option Val := match oLt h a b with
  | some v => some v
  | none => match a, b with
    | .tup xs, .tup ys => match ints? xs, ints? ys with
      | some ns, some ms => some (.bl (HT.lexLt ns ms))
      | _, _ => none
    | _, _ => none
section
variable {T : Tb} {X : Cx}
theorem ints_inv : ∀ {xs : List Val} {ns : List Int}, ints? xs = some ns → xs = ns.map Val.int
  | [], ns, e => by cases e; rfl
  | x :: xs, ns, e => by
    cases x with
    | int i =>
      simp only [ints?] at e
      cases h : ints? xs with
      | none => rw [h] at e; cases e
      | some ms => rw [h] at e; cases e; rw [ints_inv h]; rfl
    | _ => cases e
theorem o_ltT (hu : X.A.units + 1 < cLine) : OpR X (compareOp .Lt) (rB (sy T X) oLtT) := by
  refine OpR.imp (OpR.or (o_lt (T := T)) (op_ltT (by omega))) fun x y H Q h => ?_
  obtain ⟨ρ, h, d1, d2, R, r1, r2, a⟩ := h
  unfold oLtT at a
  cases e : oLt h d1 d2 with
  | some v =>
    rw [e] at a
    refine .inl ⟨ρ, h, d1, d2, R, r1, r2, ?_⟩
    rw [e]; exact a
  | none =>
    rw [e] at a
    dsimp only at a
    split at a
    · rename_i xs ys _
      split at a
      · rename_i ns ms e1 e2
        obtain rfl := ints_inv e1
        obtain rfl := ints_inv e2
        cases r1 with
        | tup s1 q1 =>
          cases r2 with
          | tup s2 q2 =>
            obtain rfl := q1.ints
            obtain rfl := q2.ints
            exact .inr ⟨_, _, _, _, rfl, rfl, s1, s2, a.same R (.bl _)⟩
      · exact a.elim
    · exact a.elim
end
end Lad
end
/-! ## LadStar -/
section
set_option maxRecDepth 100000
set_option maxHeartbeats 1000000
namespace Lad
open PySem L2
/-! ### f(e, .., *y) -/
section
variable {T : Tb} {X : Cx} {W : WX} {x : Str} {f : Addr} {fd : FuncData} {ps : List Str} {k : Nat} {sp : Sp} {cf : List Val → Hea → Res Val} {e : Expr} {es : List Expr} {g : En → Hea → Res (List Val)} {p pos : Pos} {t : TA}
theorem pe_callSt {E : St → XK} (F : FnOk X.prog X.w X.K X.mg X.base (L2.CX X.prog X.w) k f fd ps sp) (hr : Room k X.A) (hg : Gl X x) (hm : X.mg x = some (.ref f)) (hk : PySem.W.keepIn X.K (.ref f) = true) (hb : Binds X.K fd ps [])
    (hx : ∀ σ, PassesAt (L2.CX X.prog X.w) X σ (E σ)) (ha : PA X (e :: es) t) (hdb : (x == ("__debug__" : Str)) = false := by decide)
    (he : starEach (e :: es) X.env = (false, eval e X.env) :: starEach es X.env := by rfl) (hst : (backTo pos (starEach es X.env)).any (·.1) = true := by rfl) :
    PE X (.Call (.Name x p) (e :: es) [] pos) (tCallS sp E t) := by
  constructor
  intro pins s σ H Q I w
  refine wpAny_Call_Name_kw (ld_glob I hg hm ?_ hdb)
  have args := ha.run pos pins s σ H _ I w
  refine PySem.W.callWith_S2 (h₀ := X.base) I.ok.mod.kin hk (thn args ?_) he hst
  rintro us s1 ⟨vs, H1, I1, r, q⟩
  exact ⟨I1.kIn, run_fnS F hr hb (hx σ) I1 r q⟩
theorem se_callSt (F : FnOk X.prog X.w X.K X.mg X.base (L2.CX X.prog X.w) k f fd ps (spEv (sy T X) cf)) (hr : Room k X.A) (hg : Gl X x) (hm : X.mg x = some (.ref f)) (hk : PySem.W.keepIn X.K (.ref f) = true) (hb : Binds X.K fd ps []) (tk : Takes X W)
    (ha : SA T X W (e :: es) g) (hdb : (x == ("__debug__" : Str)) = false := by decide) (he : starEach (e :: es) X.env = (false, eval e X.env) :: starEach es X.env := by rfl) (hst : (backTo pos (starEach es X.env)).any (·.1) = true := by rfl) :
    SE T X W (.Call (.Name x p) (e :: es) [] pos) (eCall cf g) :=
  (pe_callSt (E := fun σ => WE W σ) F hr hg hm hk hb (fun σ => passAt tk σ) ha hdb he hst).imp fun σ H Q q => by
    obtain ⟨ρ, e, h, R, E, a⟩ := q
    exact ⟨ρ, e, h, R, E, (AftA.bind a).mono fun vs H1 ⟨ρ1, ds, h1, s, R1, r1, a1⟩ => ⟨ρ1, h1, ds, R1, r1, a1⟩⟩
end
end Lad
end
/-! ## LadG -/
section
set_option maxRecDepth 100000
set_option maxHeartbeats 2000000
namespace Lad
open PySem L2
open PySem.W (Frag)
/-! ### promises of defs where no repr is under way -/
/-- as FnOk, for calls where it is known that nothing is being shown -/
structure FnG (P : Program) (w : World) (K : Frag) (mg : Str → Option Value) (base : Heap) (CX : CXT) (k : Nat) (f : Addr) (fd : FuncData) (ps : List Str) (sp : Sp) : Prop where
  len : ∀ vs H Q E, sp vs H Q E → vs.length = ps.length
  go : ∀ (A : Around) (outer : List Env) (s : Shared) (H : Hp) (args : Args) (us : List Value) (vs : List V) (Q : VK) (E : XK), Room k A → A.guards = some [] → Env0 P w K mg base A outer s H →
    BindsTo s fd args (ps.zip us) → Vals vs us → sp vs H Q E → codeAny (model P w) A (.call (.ref f) args) (CR CX outer P w H s Q E) s
/-- a def by its body -/
theorem fnG_of {P : Program} {w : World} {K : Frag} {mg : Str → Option Value} {base : Heap} {x qual : Str} {st : Stmt} {f : Addr} {fd : FuncData} {N ps : List Str} {k : Nat} {sp : Sp}
    (F : Fun K x qual st f fd) (S : FnScope N ps (defScope st)) (hlen : ∀ vs H Q E, sp vs H Q E → vs.length = ps.length)
    (body : ∀ (cdv : Value) (A : Around) (outer : List Env) (s : Shared) (H : Hp) (vs : List V) (Q : VK) (E : XK), Room k (A.deeper (PyProof.Rows.envOfC qual (defScope st) s.heap.objs.size f cdv)) → A.guards = some [] → sp vs H Q E →
      ∃ t, PSs (cxOf (L2.CX P w) P w K mg base N qual (defScope st) f cdv A outer s H E) (defBody st) t ∧ t { nx := fun _ H' => Q .non H', rt := Q } (start N vs) H) :
    FnG P w K mg base (L2.CX P w) (k + 1) f fd ps sp := by
  obtain ⟨oc, od, kV, doc, pm, an, cdv, ct, osl, rfl, lk, hcd⟩ := F.ex
  refine ⟨hlen, ?_⟩
  intro A outer s H args us vs Q E room hgd env0 bind rel hsp
  have stay : ∀ b o, base.get? b = some o → s.heap.get? b = some o := fun b o e => (env0.bs b o e).1
  have hK : K.In s.heap := env0.mod.kin.keeps stay
  have noLim : s.heap.NoLimit := env0.mod.nolimit.keeps stay
  have kinds : ∀ y ∈ ps.zip us, (defScope st).names.lookup y.1 = some .local ∨ ((defScope st).names.lookup y.1 = some .cell ∧ ((cellsFrom (s.heap.objs.size + 1) (defScope st).names []).lookup y.1).isSome = true) := by
    rintro ⟨n, v⟩ hy
    rcases S.par n (List.of_mem_zip hy).1 with q | q
    · exact Or.inl q
    · exact Or.inr ⟨q, PySem.W.cellsFrom_some _ _ _ (Or.inl q)⟩
  refine codeAny_call_function room.depth (hK _ _ lk) rfl S.co S.gen rfl (PySem.W.codeRec_of hK hcd) (bind _ _ _ _ ?_)
  refine wpAny_newFunctionEnv_cells S.kind kinds ?_
  intro env he s1 inC
  subst he
  refine ⟨noLim.keeps inC.toInCall.keep, codeAny_func ?_⟩
  obtain ⟨t, ht, hq⟩ := body cdv A outer s H vs Q E (room.deeper _) hgd hsp
  have I0 : Inv (cxOf (L2.CX P w) P w K mg base N qual (defScope st) f cdv A outer s H E) [] (start N vs) H s1 := inv_start S room.hd env0 (hlen _ _ _ _ hsp) rel inC
  refine wpAny_mono (ht.run [] s1 (start N vs) H _ I0 hq) ?_ (fun e s' h => h)
  intro fl s' h
  cases fl with
  | ret u =>
    obtain ⟨v, σ', H', J, rv, q⟩ := h
    exact ⟨v, H', J.os, J.bare, J.base, J.hok, rv, q⟩
  | next =>
    obtain ⟨σ', H', J, q⟩ := h
    exact ⟨V.non, H', J.os, J.bare, J.base, J.hok, rfl, q⟩
  | brk => exact h.elim fun _ z => z.elim fun _ z => z.2.elim
  | cont => exact h.elim fun _ z => z.elim fun _ z => z.2.elim
theorem fnG_ok {P : Program} {w : World} {K : Frag} {mg : Str → Option Value} {base : Heap} {T : Tb} {x qual : Str} {st : Stmt} {f : Addr} {fd : FuncData} {N ps : List Str} {k : Nat} {fb : En → Hea → SRes}
    {fn : Hea → Val → Hea → Res Val} (fo : FinOk fn) (F : Fun K x qual st f fd) (Sc : FnScope N ps (defScope st))
    (hb : ∀ (cdv : Value) (A : Around) (outer : List Env) (s : Shared) (H : Hp) (E : XK), Room k (A.deeper (PyProof.Rows.envOfC qual (defScope st) s.heap.objs.size f cdv)) → A.guards = some [] →
      SSs T (cxOf (L2.CX P w) P w K mg base N qual (defScope st) f cdv A outer s H E) (fun c d _ H' => E c d H') (defBody st) fb) :
    FnG P w K mg base (L2.CX P w) (k + 1) f fd ps (spEv ⟨K, T.ca, T.nm, T.fld, T.ex⟩ (runG fn ps.length N.length fb)) :=
  fnG_of F Sc (fun vs H Q E q => (runB_ok fo q).1) fun cdv A outer s H vs Q E hr hG q => ⟨_, hb cdv A outer s H E hr hG, (runB_ok fo q).2⟩
/-! ### calling such a def -/
section
variable {T : Tb} {X : Cx} {W : WX} {x : Str} {f : Addr} {fd : FuncData} {ps : List Str} {k : Nat} {sp : Sp} {cf : List Val → Hea → Res Val} {e : Expr} {es : List Expr} {g : En → Hea → Res (List Val)} {p pos : Pos} {t : TA}
theorem run_G {E : St → XK} {pins : List (Addr × Obj)} {σ : St} {H : Hp} {s : Shared} {Q : VK} {us : List Value} {vs : List V} (F : FnG X.prog X.w X.K X.mg X.base (L2.CX X.prog X.w) k f fd ps sp) (hr : Room k X.A) (hG : X.A.guards = some [])
    (hb : Binds X.K fd ps []) (hx : PassesAt (L2.CX X.prog X.w) X σ (E σ)) (I : Inv X pins σ H s) (r : Vals vs us) (w : sp vs H Q (E σ)) : wpAny (model X.prog X.w) X.A (call (.ref f) us) (EP X pins σ Q) X.xe s := by
  have b := hb s us I.kIn (by rw [List.append_nil, ← r.length]; exact F.len _ _ _ _ w)
  rw [List.append_nil] at b
  have body := F.go X.A X.stack s H ⟨us, []⟩ us vs Q (E σ) hr hG I.env0 b r w
  refine wpAny_call (codeAny_mono body ?_)
  intro res s' hq
  match res with
  | .error e => exact hx pins H s e s' I hq
  | .ok (.ret u) => exact I.after hq
  | .ok .next => exact hq.elim
  | .ok .brk => exact hq.elim
  | .ok .cont => exact hq.elim
theorem pe_callG {E : St → XK} (F : FnG X.prog X.w X.K X.mg X.base (L2.CX X.prog X.w) k f fd ps sp) (hr : Room k X.A) (hG : X.A.guards = some []) (hg : Gl X x) (hm : X.mg x = some (.ref f)) (hk : PySem.W.keepIn X.K (.ref f) = true)
    (hb : Binds X.K fd ps []) (hx : ∀ σ, PassesAt (L2.CX X.prog X.w) X σ (E σ)) (ha : PA X (e :: es) t) (hdb : (x == ("__debug__" : Str)) = false := by decide)
    (he : starEach (e :: es) X.env = (false, eval e X.env) :: starEach es X.env := by rfl) (hpl : (backTo pos (starEach es X.env)).any (·.1) = false := by rfl) :
    PE X (.Call (.Name x p) (e :: es) [] pos) (tCallS sp E t) := by
  constructor
  intro pins s σ H Q I w
  refine wpAny_Call_Name_kw (ld_glob I hg hm ?_ hdb)
  have args := ha.run pos pins s σ H _ I w
  refine PySem.W.callWith_K (h₀ := X.base) I.ok.mod.kin hk (thn args ?_) he hpl
  rintro us s1 ⟨vs, H1, I1, r, q⟩
  exact ⟨I1.kIn, run_G F hr hG hb (hx σ) I1 r q⟩
theorem se_callG (F : FnG X.prog X.w X.K X.mg X.base (L2.CX X.prog X.w) k f fd ps (spEv (sy T X) cf)) (hr : Room k X.A) (hG : X.A.guards = some []) (hg : Gl X x) (hm : X.mg x = some (.ref f)) (hk : PySem.W.keepIn X.K (.ref f) = true) (hb : Binds X.K fd ps []) (tk : Takes X W)
    (ha : SA T X W (e :: es) g) (hdb : (x == ("__debug__" : Str)) = false := by decide) (he : starEach (e :: es) X.env = (false, eval e X.env) :: starEach es X.env := by rfl) (hpl : (backTo pos (starEach es X.env)).any (·.1) = false := by rfl) :
    SE T X W (.Call (.Name x p) (e :: es) [] pos) (eCall cf g) :=
  (pe_callG (E := fun σ => WE W σ) F hr hG hg hm hk hb (fun σ => passAt tk σ) ha hdb he hpl).imp fun σ H Q q => by
    obtain ⟨ρ, e, h, R, E, a⟩ := q
    exact ⟨ρ, e, h, R, E, (AftA.bind a).mono fun vs H1 ⟨ρ1, ds, h1, s, R1, r1, a1⟩ => ⟨ρ1, h1, ds, R1, r1, a1⟩⟩
/-- f() -/
theorem se_callG0 {x : Str} {p pos : Pos} (F : FnG X.prog X.w X.K X.mg X.base (L2.CX X.prog X.w) k f fd [] (spEv (sy T X) cf)) (hr : Room k X.A) (hG : X.A.guards = some []) (hg : Gl X x) (hm : X.mg x = some (.ref f)) (hk : PySem.W.keepIn X.K (.ref f) = true) (hb : Binds X.K fd [] []) (tk : Takes X W) (hdb : (x == ("__debug__" : Str)) = false := by decide) :
    SE T X W (.Call (.Name x p) [] [] pos) (fun _ h => cf [] h) := by
  refine ⟨fun pins s σ H Q I q => ?_⟩
  obtain ⟨ρ, e, h, R, E, a⟩ := q
  refine wpAny_Call_Name_kw (ld_glob I hg hm ?_ hdb)
  refine PySem.W.callWith_K0 I.kIn hk ?_
  exact run_G (E := fun σ => WE W σ) (us := []) (vs := []) F hr hG hb (passAt tk σ) I .nil ⟨ρ, h, [], R, .nil, a⟩
end
theorem u70 {A : Around} {k : Nat} (hr : Room k A) : A.units + 70 < cLine := by have := hr.un; omega
/-! ### repr of data -/
section
variable {T : Tb} {X : Cx}
theorem call_reprD (hG : X.A.guards = some []) (hu : X.A.units + 70 < cLine) : CallR X (.builtin "repr") (fun xs H Q => ∃ (a : Addr) (d : PyData), xs = [.ref a] ∧ Dp X.K H (.ref a) d ∧ d.showable = true ∧ d.hasDict = false ∧ d.depth ≤ 64 ∧ d.shown.length ≤ sizeLine ∧ Q (.str d.shown) H) := by
  intro pins s σ H xs us Q I r h
  obtain ⟨a, d, rfl, hd, h1, h2, h3, h4, q⟩ := h
  match us, r with
  | [_], .cons rb .nil =>
    cases rb
    obtain ⟨as, rd⟩ := Dp.reads I d (.ref a) (.ref a) hd rfl
    refine repr_of_reads' rd h1 (fun z => by rw [h2] at z; cases z) hG (by omega) (fun _ _ z => z) ?_ h4
    intro h' u tk hk
    exact ⟨.str d.shown, H, I.kept hk, ⟨u, rfl⟩, q⟩
def shOk (d : PyData) : Bool := d.showable && !d.hasDict && decide (d.depth ≤ 64) && decide (d.shown.length ≤ 16777216)
def gReprD (h : Hea) (ds : List Val) : Option Val := match gReprB h ds with
  | some v => some v
  | none => match ds with
    | [.tup xs] => match toD 60 h (.tup xs) with
      | some p => if shOk p = true then some (.str p.shown) else none
      | none => none
    | [.lst xs] => match toD 60 h (.lst xs) with
      | some p => if shOk p = true then some (.str p.shown) else none
      | none => none
    | [.ref i] => match toD 60 h (.ref i) with
      | some p => if shOk p = true then some (.str p.shown) else none
      | none => none
    | _ => none
theorem reprD_one {d : Val} {vs : List V} {H : Hp} {Q : VK} {ρ : Own} {h : Hea} (R : Rel (sy T X) ρ h H) (r : Reps (sy T X) ρ H [d] vs) (hv : ∀ v, Rep (sy T X) ρ H d v → ∃ a, v = .ref a)
    (a : Aft (sy T X) ρ H (opt (match toD 60 h d with | some p => if shOk p = true then some (.str p.shown) else none | none => none) h) Q (fun _ _ _ => False)) :
    ∃ (a : Addr) (d : PyData), vs = [.ref a] ∧ Dp X.K H (.ref a) d ∧ d.showable = true ∧ d.hasDict = false ∧ d.depth ≤ 64 ∧ d.shown.length ≤ sizeLine ∧ Q (.str d.shown) H := by
  match vs, r with
  | [v], .cons q .nil =>
    obtain ⟨b, rfl⟩ := hv v q
    cases hp : toD 60 h d with
    | none => rw [hp] at a; exact a.elim
    | some p =>
      rw [hp] at a
      dsimp only at a
      by_cases hs : shOk p = true
      · rw [if_pos hs] at a
        unfold shOk at hs
        simp only [Bool.and_eq_true, Bool.not_eq_true', decide_eq_true_eq] at hs
        exact ⟨b, p, rfl, toD_dp R _ _ _ _ q hp, hs.1.1.1, hs.1.1.2, hs.1.2, hs.2, Aft.same (d := .str _) a R (.str _)⟩
      · rw [if_neg hs] at a; exact a.elim
theorem g_reprD (hG : X.A.guards = some []) (hu : X.A.units + 70 < cLine) : CallR X (.builtin "repr") (rC (sy T X) gReprD) := CallR.imp (CallR.or (g_reprB (T := T)) (call_reprD hG hu)) fun vs H Q h => by
  obtain ⟨ρ, h, ds, R, r, a⟩ := h
  unfold gReprD at a
  cases hb : gReprB h ds with
  | some v =>
    rw [hb] at a
    refine .inl ⟨ρ, h, ds, R, r, ?_⟩
    rw [hb]
    exact a
  | none =>
    rw [hb] at a
    dsimp only at a
    split at a
    · exact .inr (reprD_one R r (fun v q => by cases q; exact ⟨_, rfl⟩) a)
    · exact .inr (reprD_one R r (fun v q => by cases q; exact ⟨_, rfl⟩) a)
    · exact .inr (reprD_one R r (fun v q => by cases q; exact ⟨_, rfl⟩) a)
    · exact a.elim
end
open PySem.Spec PyProof.Rows
/-! ### the end, for a law whose promise wants that nothing is shown -/
/-- the heap with the script alone -/
def hpOf (a : Addr) (vs : List Value) (ns : List Int) : Hp := fun b => if b = a then some (.frz { cls := .type "list", data := .seq vs.toArray } (.lst (ns.map V.int))) else none
theorem hpOf_at {a : Addr} {vs : List Value} {ns : List Int} : hpOf a vs ns a = some (.frz { cls := .type "list", data := .seq vs.toArray } (.lst (ns.map V.int))) := if_pos rfl
theorem hpOf_ne {a b : Addr} {vs : List Value} {ns : List Int} (h : b ≠ a) : hpOf a vs ns b = none := if_neg h
theorem law_G {P : Program} {w : World} {K : Frag} {mg mb : Str → Option Value} {k : Nat} {fa a : Addr} {fd : FuncData} {x : Str} {sp : Sp} {s : Shared} {vs : List Value} {ns : List Int}
    (nl : noList K = true) (KX : K.In s.heap) (hns : s.heap.Ns mainGlobals mg) (hbn : s.heap.Ns builtinsNs mb) (hbb : ∀ x : Str, x ≠ "__name__" → mb x = bootBuiltins x) (hlim : s.heap.NoLimit) (hgn : s.gens = #[])
    (ha : s.heap.get? a = some { cls := .type "list", data := .seq vs.toArray }) (hi : IntsAre vs ns) (hl : ns.length ≤ sizeLine) (hr : Room k callerA)
    (F : ∀ base : Heap, K.In base → base.Ns mainGlobals mg → FnG P w K mg base (L2.CX P w) k fa fd [x] sp) (hbind : ∀ (s : Shared) (u : Value), BindsTo s fd ⟨[u], []⟩ [(x, u)])
    (hsp : ∀ H : Hp, Only H → SqL K H a (ns.map V.int) → sp [.ref a] H (fun v _ => v = .bl true) fun _ _ _ => False) :
    codeAny (model P w) callerA (.call (.ref fa) ⟨[.ref a], []⟩) (fun r s' => r = .ok (.ret (.bool true)) ∧ OldK s.heap s'.heap ∧ s'.os = s.os ∧ AllBare s'.gens) s := by
  have only : Only (hpOf a vs ns) := by
    intro b
    by_cases hb : b = a
    · rw [hb]; exact Or.inr ⟨_, _, hpOf_at⟩
    · exact Or.inl (hpOf_ne hb)
  have track : ∀ {b : Addr} {o : HO}, hpOf a vs ns b = some o → b = a := by
    intro b o e
    by_cases hb : b = a
    · exact hb
    · rw [hpOf_ne hb] at e; cases e
  have hok : HOk P w (hpOf a vs ns) s.heap := by
    intro b u e
    have hb := track e
    subst hb
    rw [hpOf_at] at e
    cases e
    exact ⟨ha, by rw [List.length_map]; exact hl, vs, _, vals_ints hi, ha⟩
  have keep : ∀ {b : Addr} {o : Obj}, s.heap.get? b = some o → b ≠ a → (hidT s.heap (hpOf a vs ns)).get? b = some o := fun e n => hidT_get e (hpOf_ne n)
  have nsOk : ∀ {b : Addr} {m : Str → Option Value}, s.heap.Ns b m → (hidT s.heap (hpOf a vs ns)).Ns b m := by
    rintro b m ⟨o, es, ep, e, d, r⟩
    refine ⟨o, es, ep, keep e ?_, d, r⟩
    rintro rfl
    rw [ha] at e
    cases e
    cases (show Data.seq vs.toArray _ = Data.dict es ep from d)
  have inOk : K.In (hidT s.heap (hpOf a vs ns)) := by
    intro b o e
    refine keep (KX b o e) ?_
    rintro rfl
    have z := KX b o e
    rw [ha] at z
    cases z
    exact noList_ok nl e rfl
  have modOk : Mod K mg (hidT s.heap (hpOf a vs ns)) := by
    obtain ⟨mc, q1, q2⟩ := hlim
    exact ⟨inOk, nsOk hns, ⟨mb, nsOk hbn, hbb⟩, ⟨mc, nsOk q1, q2⟩⟩
  have env : Env0 P w K mg (hidT s.heap (hpOf a vs ns)) callerA [] s (hpOf a vs ns) :=
    ⟨rfl, modOk, fun b o e => of_hidT e, Nat.le_of_eq (hidT_size _ _), trivial, fun b hb => (List.not_mem_nil hb).elim, hok, .of_eq hgn⟩
  have told := (F _ inOk (nsOk hns)).go callerA [] s (hpOf a vs ns) ⟨[.ref a], []⟩ [.ref a] [.ref a] _ _ hr rfl env (hbind s (.ref a)) (.cons rfl .nil) (hsp _ only (.inl (.inr ⟨_, hpOf_at⟩)))
  refine codeAny_mono told ?_
  intro res s' h
  match res with
  | .error e =>
    obtain ⟨_, _, _, _, _, _, _, _, _, _, _, _, z⟩ := h
    exact z.elim
  | .ok .next => exact h.elim
  | .ok .brk => exact h.elim
  | .ok .cont => exact h.elim
  | .ok (.ret u) =>
    obtain ⟨v, H', os, bare, un, hok', rv, q⟩ := h
    have q : v = .bl true := q
    subst q
    obtain rfl : u = Value.bool true := rv
    refine ⟨rfl, OldK.of_keep ?_, os, bare⟩
    intro b o e
    by_cases hb : b = a
    · subst hb
      have z2 := un.frzs b _ _ hpOf_at
      obtain ⟨e2, _⟩ := hok' b _ z2
      rw [ha] at e
      cases e
      exact e2
    · exact un.keep b o e (hpOf_ne hb) (fun z => (List.not_mem_nil z).elim) (by simp)
theorem walk_G {l : PySem.W.OpenLaw} {n k : Nat} {q : Program} {loose : List Str} {XP : (Str → Option Value) → Heap → Prop} {YP : World → Heap → Prop} {d : DefRec} {x : Str}
    (hn : l.most = some n) (hn2 : n ≤ sizeLine) (hdf : d.params.defaults = []) (hr : Room k callerA)
    (F : ∀ (w : World) (mg : Str → Option Value) (f : Addr) (h : Heap), YP w h → h.Ns mainGlobals mg → mg d.name = some (.ref f) →
      ∃ (K : Frag) (fd : FuncData) (sp : Sp), noList K = true ∧ K.In h ∧ (∀ (s : Shared) (u : Value), BindsTo s fd ⟨[u], []⟩ [(x, u)]) ∧
        (∀ (H : Hp) (a : Addr) (ns : List Int), ns.length ≤ n → Only H → SqL K H a (ns.map V.int) → sp [.ref a] H (fun v _ => v = .bl true) fun _ _ _ => False) ∧
        ∀ base : Heap, K.In base → base.Ns mainGlobals mg → FnG l.prog w K mg base (L2.CX l.prog w) k f fd [x] sp) :
    PySem.W.WalkO q loose XP YP l.row.toRowW d [] (fun f vs => PySem.call f vs) := by
  refine Att.attach_call hn hdf ?_
  intro w sA sB mg mb f o pm cd doc a vs ns G Y ho hd hcd hmg hobj hints hlen hgn
  have z := F w mg f _ Y G.T.g hmg
  obtain ⟨K, fd, sp, nl, hK, bind, told, keeps⟩ := z
  exact law_G nl hK G.T.g G.T.b G.T.builtins G.T.nolimit hgn hobj hints (Nat.le_trans hlen hn2) hr keeps bind fun H only sq => told H a ns hlen only sq
end Lad
end
/-! ## K78E -/
section
set_option maxRecDepth 100000
set_option maxHeartbeats 1000000
namespace K78
open PySem L2 Lad
def top (i : Nat) : Stmt := PySem.Challenge.pw_liftedladders_k78_told_refused.main.body.getD i (.Pass ⟨0, 0, 0, 0⟩)
def fldN : Nat → Str
  | 0 => ""
  | 1 => "number"
  | 2 => ""
  | 3 => ""
  | 4 => "value"
  | 5 => ""
  | 6 => ""
  | 7 => ""
  | 8 => ""
  | 9 => ""
  | 10 => ""
  | 11 => ""
  | 12 => ""
  | 13 => ""
  | 14 => ""
  | 15 => ""
  | 16 => ""
  | 17 => ""
  | 18 => ""
  | 19 => ""
  | 20 => "index"
  | 21 => ""
  | 22 => ""
  | 23 => ""
  | 24 => ""
  | 25 => ""
  | 26 => ""
  | _ => ""
def caK (K : PySem.W.Frag) : Nat → Addr
  | 0 => He.ga K "LadderError"
  | 1 => He.ga K "BadNumber"
  | 4 => He.ga K "BadGame"
  | 20 => He.ga K "BadTold"
  | 45 => He.ga K "Runs"
  | _ => 0
def nms : List Str := (["low", "high", "table", "fresh", "times", "bonus", "places", "last_phase", "parts", "start", "moved", "game", "changed", "own_places", "own_moves", "moves", "own_counts", "at", "total", "can"] : List Str) ++ (["after", "mean", "own_rows", "rows", "fewest", "differences", "behind", "own_games", "ahead", "least", "firsts", "lasts", "fits", "within", "is_row_of_fewest", "could_hold", "%0", "%1", "%2", "%3"] : List Str) ++ (["%4", "%5", "%6", "%7", "%8", "%9", "%10", "%11", "%12", "%13", "%14", "%15", "%16", "%17", "%18", "%19", "%20", "%21", "%22", "%23"] : List Str) ++ (["%24", "%25", "%26", "%27", "%28", "%29", "%30", "%31", "%32", "%33", "%34", "%35", "%36", "%37", "%38", "%39", "%40", "%41", "%42", "%43"] : List Str) ++ (["%44", "%45", "%46", "%47", "%48", "%49", "%50", "%51", "%52", "%53", "%54", "%55", "%56", "%57", "%58", "%59", "%60", "%61", "%62", "%63"] : List Str)
def nmN (i : Nat) : Str := nms.getD i ""
abbrev TT (K : PySem.W.Frag) : Tb := ⟨caK K, nmN, fldN, none⟩
def sub_BadGame : Nat → Option Bool
  | 1 => some false
  | 4 => some true
  | 20 => some false
  | _ => none
def sub_BadNumber : Nat → Option Bool
  | 1 => some true
  | 4 => some false
  | 20 => some false
  | _ => none
def sub_BadTold : Nat → Option Bool
  | 1 => some false
  | 4 => some false
  | 20 => some true
  | _ => none
def k_MOST_CHANGE : Val := (.int 9)
def k_MOST_RATING : Val := (.int 23)
def k_OPEN : Val := (.tup [(.int (-9)), (.int 9)])
def k_RESULTS : Val := (.tup [(.str "upper"), (.str "draw"), (.str "lower")])
def b_is_whole : En → Hea → SRes := (sRet (eAnd (eUn (oIsi [.int]) (eVar 0)) (eUn oNot (eUn (oIsi [.bool]) (eVar 0)))))
def c_is_whole : List Val → Hea → Res Val := runB 1 1 b_is_whole
def b_is_result : En → Hea → SRes := (sRet (eAnd (eUn (oIsi [.str]) (eVar 0)) (eBin oIn (eVar 0) (eC k_RESULTS))))
def c_is_result : List Val → Hea → Res Val := runB 1 1 b_is_result
def b_bounds_of : En → Hea → SRes := (sSeq (sSet 4 (eIf (eBin oEq (eVar 3) (eVar 0)) (eUn oNeg (eC k_MOST_CHANGE)) (eBin oSub (eVar 3) (eVar 2))))
  (sSeq (sSet 5 (eIf (eBin oEq (eVar 3) (eVar 1)) (eC k_MOST_CHANGE) (eBin oSub (eVar 3) (eVar 2))))
  (sRet (eTup (aCons (eVar 4) (aCons (eVar 5) aNil))))))
def c_bounds_of : List Val → Hea → Res Val := runB 4 6 b_bounds_of
def b_common : En → Hea → SRes := (sSeq (sSet 2 (eIf (eBin oGt (eBin oIx (eVar 0) (eC (.int 0))) (eBin oIx (eVar 1) (eC (.int 0)))) (eBin oIx (eVar 0) (eC (.int 0))) (eBin oIx (eVar 1) (eC (.int 0)))))
  (sSeq (sSet 3 (eIf (eBin oLt (eBin oIx (eVar 0) (eC (.int 1))) (eBin oIx (eVar 1) (eC (.int 1)))) (eBin oIx (eVar 0) (eC (.int 1))) (eBin oIx (eVar 1) (eC (.int 1)))))
  (sRet (eTup (aCons (eVar 2) (aCons (eVar 3) aNil))))))
def c_common : List Val → Hea → Res Val := runB 2 4 b_common
def l_sorted_pairs_0 : En → Hea → SRes := (sSeq (sSet 3 (eItL gLen (lComp [4] (iSeq (eVar 1)) (gN 4) (eBin oLtT (eVar 4) (eVar 2)) (eVar 4))))
  (sSet 1 (eLst (lDisp (aStar (eCutA (eVar 1) none (some (eVar 3))) (aCons (eVar 2) (aStar (eCutA (eVar 1) (some (eVar 3)) none) aNil)))))))
def b_sorted_pairs : En → Hea → SRes := (sSeq (sSet 1 (eLst (lDisp aNil)))
  (sSeq (sFor (iSeq (eVar 0)) (gN 2) l_sorted_pairs_0)
  (sRet (eVar 1))))
def c_sorted_pairs : List Val → Hea → Res Val := runB 1 5 b_sorted_pairs
def b_cut : En → Hea → SRes := (sRet (eCB gMin2 (aCons (eCB gInt (aCons (eVar 1) aNil)) (aCons (eCB gMax2 (aCons (eCB gInt (aCons (eVar 0) aNil)) (aCons (eCB gInt (aCons (eVar 2) aNil)) aNil))) aNil))))
def c_cut : List Val → Hea → Res Val := runB 3 3 b_cut
def b__law_pool : En → Hea → SRes := (sSeq (sSet 2 (eIf (eBin oLt (eVar 1) (eIt gLen (eVar 0))) (eCB gMax2 (aCons (eCB gInt (aCons (eBin oIx (eVar 0) (eVar 1)) aNil)) (aCons (eCB gInt (aCons (eBin oSub (eUn oNeg (eC (.int 1))) (eBin oIx (eVar 0) (eVar 1))) aNil)) aNil))) (eC (.int 7))))
  (sSeq (sSet 3 (eBin oAdd (eBin oMod (eCB gInt (aCons (eBin oMul (eBin oAdd (eBin oMod (eCB gInt (aCons (eVar 2) aNil)) (eC (.int 2147483629))) (eBin oMul (eC (.int 104729)) (eBin oAdd (eVar 1) (eC (.int 1))))) (eC (.int 48271))) aNil)) (eC (.int 2147483629))) (eC (.int 1))))
  (sRet (eNew (lDisp (aCons (eBin oMul (eVar 2) (eCB gInt (aCons (eBin oGe (eVar 2) (eBin oPow (eC (.int 10)) (eC (.int 18)))) aNil))) (aCons (eBin oMod (eCB gInt (aCons (eBin oMul (eVar 3) (eVar 3)) aNil)) (eC (.int 2147483629))) aNil)))))))
def c__law_pool : List Val → Hea → Res Val := runK 2 4 b__law_pool
def b__law_draw : En → Hea → SRes := (sSeq (sIf (eBin oGt (eBin oIx (eVar 0) (eC (.int 0))) (eC (.int 0))) (sSeq (sSet 2 (eBin oMod (eCB gInt (aCons (eBin oIx (eVar 0) (eC (.int 0))) aNil)) (eVar 1)))
  (sSeq (sSetIx (eBin oDiv (eBin oIx (eVar 0) (eC (.int 0))) (eVar 1)) (eVar 0) (eC (.int 0)))
  (sRet (eVar 2)))) sNil)
  (sSeq (sSetIx (eBin oMod (eCB gInt (aCons (eBin oAdd (eBin oMul (eBin oIx (eVar 0) (eC (.int 1))) (eC (.int 48271))) (eC (.int 11))) aNil)) (eC (.int 2147483647))) (eVar 0) (eC (.int 1)))
  (sRet (eBin oMod (eCB gInt (aCons (eBin oDiv (eBin oMod (eCB gInt (aCons (eBin oMul (eBin oIx (eVar 0) (eC (.int 1))) (eBin oIx (eVar 0) (eC (.int 1)))) aNil)) (eC (.int 2147483629))) (eC (.int 16))) aNil)) (eVar 1)))))
def c__law_draw : List Val → Hea → Res Val := runB 2 3 b__law_draw
def b_Runs_least : En → Hea → SRes := (sSeq (sSet 2 (eLst (lComp [3] (iSeq (eVar 1)) (gN 3) (eBin oIsNot (eVar 3) (eC .non)) (eCB gInt (aCons (eVar 3) aNil)))))
  (sRet (eIf (eBin oEq (eVar 2) (eLst (lDisp aNil))) (eC .non) (eBin oAdd (eItL gMin (lComp [3] (iSeq (eVar 2)) (gN 3) eYes (eCB gInt (aCons (eVar 3) aNil)))) (eC (.int 1))))))
def c_Runs_least : List Val → Hea → Res Val := runB 2 4 b_Runs_least
def b_Runs_within : En → Hea → SRes := (sSeq (sSet 3 (eCutA (eFld (Nat.beq 45) 25 (eVar 0)) (some (eVar 1)) (some (eBin oAdd (eVar 2) (eC (.int 1))))))
  (sRet (eLst (lComp [4] (iSeq (eFld (Nat.beq 45) 27 (eVar 0))) (gN 4) (eBin oIn (eBin oSub (eBin oIx (eVar 4) (eC (.int 0))) (eBin oIx (eVar 4) (eC (.int 1)))) (eVar 3)) (eVar 4)))))
def c_Runs_within : List Val → Hea → Res Val := runB 3 5 b_Runs_within
def b_Runs_fewest : En → Hea → SRes := (sRet (eIf (eBin oEq (eIt gLen (eFld (Nat.beq 45) 25 (eVar 0))) (eC (.int 0))) (eC (.int 1)) (eBin oIx (eFld (Nat.beq 45) 26 (eVar 0)) (eC (.int 0)))))
def c_Runs_fewest : List Val → Hea → Res Val := runB 1 1 b_Runs_fewest
def b_Runs_could_hold : En → Hea → SRes := (sSeq (sIf (eAnd (eBin oGt (eVar 1) (eC (.int 0))) (eBin oLe (eVar 3) (eBin oIx (eFld (Nat.beq 45) 25 (eVar 0)) (eBin oSub (eVar 1) (eC (.int 1)))))) (sRet (eC (.bl false))) sNil)
  (sRet (eOr (eBin oGe (eBin oAdd (eVar 2) (eC (.int 1))) (eIt gLen (eFld (Nat.beq 45) 25 (eVar 0)))) (eBin oLt (eVar 3) (eBin oIx (eFld (Nat.beq 45) 25 (eVar 0)) (eBin oAdd (eVar 2) (eC (.int 1))))))))
def c_Runs_could_hold : List Val → Hea → Res Val := runB 4 4 b_Runs_could_hold
def b_is_integer : En → Hea → SRes := (sRet (eAnd (eCall c_is_whole (aCons (eVar 0) aNil)) (eChain oLe oLe (eVar 1) (eVar 0) (eVar 2))))
def c_is_integer : List Val → Hea → Res Val := runB 3 3 b_is_integer
def l_ranges_of_0 : En → Hea → SRes := (sIf (eBin oEq (eBin oIx (eVar 6) (eC (.int 2))) (eVar 3)) (sSeq (sSet 4 (eCall c_common (aCons (eVar 4) (aCons (eCall c_bounds_of (aCons (eVar 0) (aCons (eVar 1) (aCons (eBin oIx (eVar 6) (eC (.int 0))) (aCons (eBin oIx (eVar 6) (eC (.int 3))) aNil))))) aNil))))
  (sSet 5 (eCall c_common (aCons (eVar 5) (aCons (eCall c_bounds_of (aCons (eVar 0) (aCons (eVar 1) (aCons (eBin oIx (eVar 6) (eC (.int 1))) (aCons (eBin oIx (eVar 6) (eC (.int 4))) aNil))))) aNil))))) sNil)
def b_ranges_of : En → Hea → SRes := (sSeq (sPar [4, 5] (aCons (eC k_OPEN) (aCons (eC k_OPEN) aNil)))
  (sSeq (sFor (iSeq (eVar 2)) (gN 6) l_ranges_of_0)
  (sRet (eTup (aCons (eVar 4) (aCons (eVar 5) aNil))))))
def c_ranges_of : List Val → Hea → Res Val := runB 4 7 b_ranges_of
def b_check_bounds : En → Hea → SRes := (sSeq (sIf (eUn oNot (eCall c_is_integer (aCons (eVar 0) (aCons (eC (.int 0)) (aCons (eC k_MOST_RATING) aNil))))) (sRaise 1 (eVar 0)) sNil)
  (sIf (eUn oNot (eCall c_is_integer (aCons (eVar 1) (aCons (eVar 0) (aCons (eC k_MOST_RATING) aNil))))) (sRaise 1 (eVar 1)) sNil))
def c_check_bounds : List Val → Hea → Res Val := runB 2 2 b_check_bounds
def b_is_told : En → Hea → SRes := (sSeq (sIf (eOr (eUn oNot (eUn (oIsi [.tuple]) (eVar 2))) (eOr (eBin oNe (eIt gLen (eVar 2)) (eC (.int 5))) (eUn oNot (eCall c_is_result (aCons (eBin oIx (eVar 2) (eC (.int 2))) aNil))))) (sRet (eC (.bl false))) sNil)
  (sSeq (sSet 3 (eLst (lDisp (aCons (eBin oIx (eVar 2) (eC (.int 0))) (aCons (eBin oIx (eVar 2) (eC (.int 1))) (aCons (eBin oIx (eVar 2) (eC (.int 3))) (aCons (eBin oIx (eVar 2) (eC (.int 4))) aNil)))))))
  (sSeq (sIf (eOr (eUn oNot (eItL gAll (lComp [4] (iSeq (eVar 3)) (gN 4) eYes (eCall c_is_integer (aCons (eVar 4) (aCons (eVar 0) (aCons (eVar 1) aNil))))))) (eBin oGt (eBin oIx (eVar 2) (eC (.int 1))) (eBin oIx (eVar 2) (eC (.int 0))))) (sRet (eC (.bl false))) sNil)
  (sRet (eAnd (eBin oLe (eCB gAbs (aCons (eBin oSub (eBin oIx (eVar 2) (eC (.int 3))) (eBin oIx (eVar 2) (eC (.int 0)))) aNil)) (eC k_MOST_CHANGE)) (eBin oLe (eCB gAbs (aCons (eBin oSub (eBin oIx (eVar 2) (eC (.int 4))) (eBin oIx (eVar 2) (eC (.int 1)))) aNil)) (eC k_MOST_CHANGE)))))))
def c_is_told : List Val → Hea → Res Val := runB 3 5 b_is_told
def l_fit_one_row_0 : En → Hea → SRes := (sSeq (sAsg (gT [4, 5]) (eCall c_ranges_of (aCons (eVar 0) (aCons (eVar 1) (aCons (eVar 2) (aCons (eVar 3) aNil))))))
  (sIf (eOr (eBin oGt (eBin oIx (eVar 4) (eC (.int 0))) (eBin oIx (eVar 4) (eC (.int 1)))) (eBin oGt (eBin oIx (eVar 5) (eC (.int 0))) (eBin oIx (eVar 5) (eC (.int 1))))) (sRet (eC (.bl false))) sNil))
def b_fit_one_row : En → Hea → SRes := (sSeq (sFor (iSeq (eC k_RESULTS)) (gN 3) l_fit_one_row_0)
  (sRet (eC (.bl true))))
def c_fit_one_row : List Val → Hea → Res Val := runB 3 6 b_fit_one_row
def l_row_for_0 : En → Hea → SRes := (sSeq (sAsg (gT [6, 7]) (eCall c_ranges_of (aCons (eVar 0) (aCons (eVar 1) (aCons (eVar 3) (aCons (eVar 5) aNil))))))
  (sSeq (sSet 8 (eItL gAny (lComp [9] (iSeq (eVar 3)) (gN 9) eYes (eBin oEq (eBin oIx (eVar 9) (eC (.int 2))) (eVar 5)))))
  (sEx (eApp (eVar 4) (eIf (eVar 8) (eTup (aCons (eBin oIx (eVar 6) (eC (.int 0))) (aCons (eBin oIx (eVar 7) (eC (.int 0))) aNil))) (eTup (aCons (eC (.int 0)) (aCons (eC (.int 0)) aNil))))))))
def b_row_for : En → Hea → SRes := (sSeq (sSet 4 (eNew (lDisp aNil)))
  (sSeq (sFor (iSeq (eC k_RESULTS)) (gN 5) l_row_for_0)
  (sRet (eTup (aCons (eVar 2) (aStar (eVar 4) aNil))))))
def c_row_for : List Val → Hea → Res Val := runB 4 10 b_row_for
def b_is_full_entry : En → Hea → SRes := (sRet (eAnd (eUn (oIsi [.tuple]) (eVar 0)) (eAnd (eBin oEq (eIt gLen (eVar 0)) (eC (.int 2))) (eItL gAll (lComp [1] (iSeq (eVar 0)) (gN 1) eYes (eCall c_is_integer (aCons (eVar 1) (aStar (eC k_OPEN) aNil))))))))
def c_is_full_entry : List Val → Hea → Res Val := runB 1 2 b_is_full_entry
def l_check_told_0 : En → Hea → SRes := (sIf (eUn oNot (eCall c_is_told (aCons (eVar 0) (aCons (eVar 1) (aCons (eVar 4) aNil))))) (sRaise 20 (eVar 3)) sNil)
def b_check_told : En → Hea → SRes := (sSeq (sEx (eCall c_check_bounds (aCons (eVar 0) (aCons (eVar 1) aNil))))
  (sSeq (sIf (eUn oNot (eUn (oIsi [.list, .tuple]) (eVar 2))) (sRaise 20 (eC .non)) sNil)
  (sFor (iEnumS (eVar 2)) (gT [3, 4]) l_check_told_0)))
def c_check_told : List Val → Hea → Res Val := runB 3 5 b_check_told
def l_is_full_table_0 : En → Hea → SRes := (sSeq (sIf (eOr (eUn oNot (eUn (oIsi [.tuple]) (eVar 1))) (eOr (eBin oNe (eIt gLen (eVar 1)) (eC (.int 4))) (eOr (eUn oNot (eCall c_is_whole (aCons (eBin oIx (eVar 1) (eC (.int 0))) aNil))) (eBin oLt (eBin oIx (eVar 1) (eC (.int 0))) (eC (.int 0)))))) (sRet (eC (.bl false))) sNil)
  (sIf (eUn oNot (eItL gAll (lComp [2] (iSeq (eCutA (eVar 1) (some (eC (.int 1))) none)) (gN 2) eYes (eCall c_is_full_entry (aCons (eVar 2) aNil))))) (sRet (eC (.bl false))) sNil))
def b_is_full_table : En → Hea → SRes := (sSeq (sIf (eOr (eUn oNot (eUn (oIsi [.list]) (eVar 0))) (eBin oEq (eVar 0) (eLst (lDisp aNil)))) (sRet (eC (.bl false))) sNil)
  (sSeq (sFor (iSeq (eVar 0)) (gN 1) l_is_full_table_0)
  (sRet (eAnd (eBin oEq (eBin oIx (eBin oIx (eVar 0) (eC (.int 0))) (eC (.int 0))) (eC (.int 0))) (eItL gAll (lComp [3, 4] (iZipV (aCons (eVar 0) (aCons (eCutA (eVar 0) (some (eC (.int 1))) none) aNil))) (gT [3, 4]) eYes (eBin oLt (eBin oIx (eVar 3) (eC (.int 0))) (eBin oIx (eVar 4) (eC (.int 0))))))))))
def c_is_full_table : List Val → Hea → Res Val := runB 1 5 b_is_full_table
def b_Runs_fits : En → Hea → SRes := (sRet (eCall c_fit_one_row (aCons (eFld (Nat.beq 45) 0 (eVar 0)) (aCons (eFld (Nat.beq 45) 1 (eVar 0)) (aCons (eMeth 45 33 c_Runs_within (eVar 0) (aCons (eVar 1) (aCons (eVar 2) aNil))) aNil)))))
def c_Runs_fits : List Val → Hea → Res Val := runB 3 3 b_Runs_fits
def l_unlike_games_0 : En → Hea → SRes := (sSeq (sSet 8 (eAnd (eBin oEq (eBin oSub (eBin oIx (eVar 7) (eC (.int 0))) (eBin oIx (eVar 7) (eC (.int 1)))) (eBin oSub (eBin oIx (eVar 5) (eC (.int 0))) (eBin oIx (eVar 5) (eC (.int 1))))) (eBin oEq (eBin oIx (eVar 7) (eC (.int 2))) (eBin oIx (eVar 5) (eC (.int 2))))))
  (sIf (eAnd (eVar 8) (eUn oNot (eCall c_fit_one_row (aCons (eVar 0) (aCons (eVar 1) (aCons (eLst (lDisp (aCons (eVar 7) (aCons (eVar 5) aNil)))) aNil)))))) (sEx (eApp (eVar 3) (eTup (aCons (eVar 6) (aCons (eVar 4) aNil))))) sNil))
def l_unlike_games_1 : En → Hea → SRes := (sFor (iEnumS (eCutA (eVar 2) none (some (eVar 4)))) (gT [6, 7]) l_unlike_games_0)
def b_unlike_games : En → Hea → SRes := (sSeq (sEx (eCall c_check_told (aCons (eVar 0) (aCons (eVar 1) (aCons (eVar 2) aNil)))))
  (sSeq (sSet 3 (eNew (lDisp aNil)))
  (sSeq (sFor (iEnumS (eVar 2)) (gT [4, 5]) l_unlike_games_1)
  (sRet (eCall c_sorted_pairs (aCons (eVar 3) aNil))))))
def c_unlike_games : List Val → Hea → Res Val := runB 3 9 b_unlike_games
def l_explains_0 : En → Hea → SRes := (sSeq (sSet 9 (eBin oIx (eLst (lComp [9] (iSeq (eVar 3)) (gN 9) (eBin oLe (eBin oIx (eVar 9) (eC (.int 0))) (eBin oSub (eVar 4) (eVar 5))) (eVar 9))) (eUn oNeg (eC (.int 1)))))
  (sSeq (sSet 10 (eBin oIx (eVar 9) (eBin oAdd (eC (.int 1)) (eIdxC ["upper", "draw", "lower"] (eVar 6)))))
  (sIf (eBin oNe (eTup (aCons (eCall c_cut (aCons (eVar 0) (aCons (eVar 1) (aCons (eBin oAdd (eVar 4) (eBin oIx (eVar 10) (eC (.int 0)))) aNil)))) (aCons (eCall c_cut (aCons (eVar 0) (aCons (eVar 1) (aCons (eBin oAdd (eVar 5) (eBin oIx (eVar 10) (eC (.int 1)))) aNil)))) aNil))) (eTup (aCons (eVar 7) (aCons (eVar 8) aNil)))) (sRet (eC (.bl false))) sNil)))
def b_explains : En → Hea → SRes := (sSeq (sEx (eCall c_check_told (aCons (eVar 0) (aCons (eVar 1) (aCons (eVar 2) aNil)))))
  (sSeq (sIf (eUn oNot (eCall c_is_full_table (aCons (eVar 3) aNil))) (sRet (eC (.bl false))) sNil)
  (sSeq (sFor (iSeq (eVar 2)) (gT [4, 5, 6, 7, 8]) l_explains_0)
  (sRet (eC (.bl true))))))
def c_explains : List Val → Hea → Res Val := runB 4 11 b_explains
def b_Runs_firsts : En → Hea → SRes := (sRet (eLst (lComp [2] (iRng1V (aCons (eVar 1) aNil)) (gN 2) (eMeth 45 32 c_Runs_fits (eVar 0) (aCons (eVar 2) (aCons (eBin oSub (eVar 1) (eC (.int 1))) aNil))) (eVar 2))))
def c_Runs_firsts : List Val → Hea → Res Val := runB 2 3 b_Runs_firsts
def b_Runs_lasts : En → Hea → SRes := (sRet (eLst (lComp [2] (iRng2V (aCons (eVar 1) (aCons (eIt gLen (eFld (Nat.beq 45) 25 (eVar 0))) aNil))) (gN 2) (eMeth 45 32 c_Runs_fits (eVar 0) (aCons (eVar 1) (aCons (eVar 2) aNil))) (eVar 2))))
def c_Runs_lasts : List Val → Hea → Res Val := runB 2 3 b_Runs_lasts
def b_Runs_is_row_of_fewest : En → Hea → SRes := (sSeq (sPar [3, 4] (aCons (eBin oIx (eFld (Nat.beq 45) 28 (eVar 0)) (eVar 1)) (aCons (eBin oIx (eFld (Nat.beq 45) 26 (eVar 0)) (eBin oAdd (eVar 2) (eC (.int 1)))) aNil)))
  (sSeq (sIf (eOr (eBin oIs (eVar 3) (eC .non)) (eOr (eBin oIs (eVar 4) (eC .non)) (eUn oNot (eMeth 45 32 c_Runs_fits (eVar 0) (aCons (eVar 1) (aCons (eVar 2) aNil)))))) (sRet (eC (.bl false))) sNil)
  (sRet (eBin oEq (eBin oAdd (eBin oAdd (eVar 3) (eC (.int 1))) (eVar 4)) (eMeth 45 24 c_Runs_fewest (eVar 0) aNil)))))
def c_Runs_is_row_of_fewest : List Val → Hea → Res Val := runB 3 5 b_Runs_is_row_of_fewest
def l_rows_for_0 : En → Hea → SRes := (sIf (eAnd (eMeth 45 35 c_Runs_could_hold (eVar 0) (aCons (eVar 5) (aCons (eVar 6) (aCons (eVar 1) aNil)))) (eMeth 45 34 c_Runs_is_row_of_fewest (eVar 0) (aCons (eVar 5) (aCons (eVar 6) aNil)))) (sEx (eApp (eVar 4) (eCall c_ranges_of (aCons (eFld (Nat.beq 45) 0 (eVar 0)) (aCons (eFld (Nat.beq 45) 1 (eVar 0)) (aCons (eMeth 45 33 c_Runs_within (eVar 0) (aCons (eVar 5) (aCons (eVar 6) aNil))) (aCons (eVar 2) aNil))))))) sNil)
def l_rows_for_1 : En → Hea → SRes := (sFor (iRng2V (aCons (eVar 5) (aCons (eVar 3) aNil))) (gN 6) l_rows_for_0)
def b_rows_for : En → Hea → SRes := (sSeq (sSet 3 (eIt gLen (eFld (Nat.beq 45) 25 (eVar 0))))
  (sSeq (sIf (eBin oEq (eVar 3) (eC (.int 0))) (sRet (eLst (lDisp (aCons (eTup (aCons (eC k_OPEN) (aCons (eC k_OPEN) aNil))) aNil)))) sNil)
  (sSeq (sSet 4 (eNew (lDisp aNil)))
  (sSeq (sFor (iRng1V (aCons (eVar 3) aNil)) (gN 5) l_rows_for_1)
  (sRet (eVar 4))))))
def c_rows_for : List Val → Hea → Res Val := runB 3 7 b_rows_for
def l_Runs___init___0 : En → Hea → SRes := (sEx (eApp (eFld (Nat.beq 45) 28 (eVar 0)) (eMeth 45 29 c_Runs_least (eVar 0) (aCons (eLst (lComp [6] (iSeq (eMeth 45 30 c_Runs_firsts (eVar 0) (aCons (eVar 5) aNil))) (gN 6) eYes (eBin oIx (eFld (Nat.beq 45) 28 (eVar 0)) (eVar 6)))) aNil))))
def l_Runs___init___1 : En → Hea → SRes := (sSetIx (eMeth 45 29 c_Runs_least (eVar 0) (aCons (eLst (lComp [8] (iSeq (eMeth 45 31 c_Runs_lasts (eVar 0) (aCons (eVar 6) aNil))) (gN 8) eYes (eBin oIx (eFld (Nat.beq 45) 26 (eVar 0)) (eBin oAdd (eVar 8) (eC (.int 1)))))) aNil)) (eFld (Nat.beq 45) 26 (eVar 0)) (eVar 6))
def b_Runs___init__ : En → Hea → SRes := (sSeq (sFldV (Nat.beq 45) 0 (eVar 0) (eVar 1))
  (sSeq (sFldV (Nat.beq 45) 1 (eVar 0) (eVar 2))
  (sSeq (sFldV (Nat.beq 45) 27 (eVar 0) (eIt gTuple (eVar 3)))
  (sSeq (sFldV (Nat.beq 45) 25 (eVar 0) (eLst (lSortSet [7] (iSeq (eVar 3)) (gN 7) eYes (eCB gInt (aCons (eBin oSub (eBin oIx (eVar 7) (eC (.int 0))) (eBin oIx (eVar 7) (eC (.int 1)))) aNil)))))
  (sSeq (sSet 4 (eIt gLen (eFld (Nat.beq 45) 25 (eVar 0))))
  (sSeq (sFldV (Nat.beq 45) 28 (eVar 0) (eNew (lDisp (aCons (eC (.int 0)) aNil))))
  (sSeq (sFor (iRng2V (aCons (eC (.int 1)) (aCons (eBin oAdd (eVar 4) (eC (.int 1))) aNil))) (gN 5) l_Runs___init___0)
  (sSeq (sFldV (Nat.beq 45) 26 (eVar 0) (eNew (lMul (eLst (lDisp (aCons (eC (.int 0)) aNil))) (eBin oAdd (eVar 4) (eC (.int 1))))))
  (sFor (iRng3V (aCons (eBin oSub (eVar 4) (eC (.int 1))) (aCons (eUn oNeg (eC (.int 1))) (aCons (eUn oNeg (eC (.int 1))) aNil)))) (gN 6) l_Runs___init___1)))))))))
def c_Runs___init__ : List Val → Hea → Res Val := runB 4 9 b_Runs___init__
def b_fewest_rows : En → Hea → SRes := (sSeq (sEx (eCall c_check_told (aCons (eVar 0) (aCons (eVar 1) (aCons (eVar 2) aNil)))))
  (sRet (eMeth 45 24 c_Runs_fewest (eMake 45 c_Runs___init__ (aCons (eVar 0) (aCons (eVar 1) (aCons (eVar 2) aNil)))) aNil)))
def c_fewest_rows : List Val → Hea → Res Val := runB 3 3 b_fewest_rows
def l_told_table_0 : En → Hea → SRes := (sSeq (sSet 6 (eBin oIx (eLst (lComp [8] (iSeq (eMeth 45 31 c_Runs_lasts (eVar 3) (aCons (eVar 5) aNil))) (gN 8) (eMeth 45 34 c_Runs_is_row_of_fewest (eVar 3) (aCons (eVar 5) (aCons (eVar 8) aNil))) (eVar 8))) (eUn oNeg (eC (.int 1)))))
  (sSeq (sSet 7 (eIf (eBin oEq (eVar 5) (eC (.int 0))) (eC (.int 0)) (eBin oIx (eFld (Nat.beq 45) 25 (eVar 3)) (eVar 5))))
  (sSeq (sEx (eApp (eVar 4) (eCall c_row_for (aCons (eVar 0) (aCons (eVar 1) (aCons (eVar 7) (aCons (eMeth 45 33 c_Runs_within (eVar 3) (aCons (eVar 5) (aCons (eVar 6) aNil))) aNil)))))))
  (sSet 5 (eBin oAdd (eVar 6) (eC (.int 1)))))))
def b_told_table : En → Hea → SRes := (sSeq (sEx (eCall c_check_told (aCons (eVar 0) (aCons (eVar 1) (aCons (eVar 2) aNil)))))
  (sSeq (sSet 3 (eMake 45 c_Runs___init__ (aCons (eVar 0) (aCons (eVar 1) (aCons (eVar 2) aNil)))))
  (sSeq (sIf (eBin oIs (eMeth 45 24 c_Runs_fewest (eVar 3) aNil) (eC .non)) (sRet (eC .non)) sNil)
  (sSeq (sIf (eBin oEq (eIt gLen (eFld (Nat.beq 45) 25 (eVar 3))) (eC (.int 0))) (sRet (eLst (lDisp (aCons (eCall c_row_for (aCons (eVar 0) (aCons (eVar 1) (aCons (eC (.int 0)) (aCons (eLst (lDisp aNil)) aNil))))) aNil)))) sNil)
  (sSeq (sAsg (gT [4, 5]) (eTup (aCons (eNew (lDisp aNil)) (aCons (eC (.int 0)) aNil))))
  (sSeq (sWhile 5000 (eBin oLt (eVar 5) (eIt gLen (eFld (Nat.beq 45) 25 (eVar 3)))) l_told_table_0)
  (sRet (eVar 4))))))))
def c_told_table : List Val → Hea → Res Val := runB 3 9 b_told_table
def l_may_follow_0 : En → Hea → SRes := (Lad.sDPutT (eC (.bl true)) (eVar 7) (aCons (eCall c_cut (aCons (eVar 0) (aCons (eVar 1) (aCons (eBin oAdd (eVar 3) (eVar 10)) aNil)))) (aCons (eCall c_cut (aCons (eVar 0) (aCons (eVar 1) (aCons (eBin oAdd (eVar 4) (eVar 11)) aNil)))) aNil)))
def l_may_follow_1 : En → Hea → SRes := (sFor (iRng2V (aCons (eBin oIx (eVar 9) (eC (.int 0))) (aCons (eBin oAdd (eBin oIx (eVar 9) (eC (.int 1))) (eC (.int 1))) aNil))) (gN 11) l_may_follow_0)
def l_may_follow_2 : En → Hea → SRes := (sFor (iRng2V (aCons (eBin oIx (eVar 8) (eC (.int 0))) (aCons (eBin oAdd (eBin oIx (eVar 8) (eC (.int 1))) (eC (.int 1))) aNil))) (gN 10) l_may_follow_1)
def b_may_follow : En → Hea → SRes := (sSeq (sEx (eCall c_check_told (aCons (eVar 0) (aCons (eVar 1) (aCons (eVar 2) aNil)))))
  (sSeq (sIf (eUn oNot (eCall c_is_integer (aCons (eVar 3) (aCons (eVar 0) (aCons (eVar 1) aNil))))) (sRaise 4 (eVar 3)) sNil)
  (sSeq (sIf (eUn oNot (eCall c_is_integer (aCons (eVar 4) (aCons (eVar 0) (aCons (eVar 3) aNil))))) (sRaise 4 (eVar 4)) sNil)
  (sSeq (sIf (eUn oNot (eCall c_is_result (aCons (eVar 5) aNil))) (sRaise 4 (eVar 5)) sNil)
  (sSeq (sSet 6 (eMake 45 c_Runs___init__ (aCons (eVar 0) (aCons (eVar 1) (aCons (eVar 2) aNil)))))
  (sSeq (sIf (eBin oIs (eMeth 45 24 c_Runs_fewest (eVar 6) aNil) (eC .non)) (sRet (eC .non)) sNil)
  (sSeq (sSet 7 eD0T)
  (sSeq (sFor (iSeq (eCall c_rows_for (aCons (eVar 6) (aCons (eBin oSub (eVar 3) (eVar 4)) (aCons (eVar 5) aNil))))) (gT [8, 9]) l_may_follow_2)
  (sRet (eCall c_sorted_pairs (aCons (eLst (lKeysT (eVar 7))) aNil)))))))))))
def c_may_follow : List Val → Hea → Res Val := runB 6 12 b_may_follow
def b__law_call : En → Hea → SRes := (sIf (eBin oEq (eVar 0) (eC (.int 0))) (sEx (eCall c_fewest_rows (aCons (eVar 1) (aCons (eVar 2) (aCons (eVar 3) aNil))))) (sIf (eBin oEq (eVar 0) (eC (.int 1))) (sEx (eCall c_told_table (aCons (eVar 1) (aCons (eVar 2) (aCons (eVar 3) aNil))))) (sIf (eBin oEq (eVar 0) (eC (.int 2))) (sEx (eCall c_unlike_games (aCons (eVar 1) (aCons (eVar 2) (aCons (eVar 3) aNil))))) (sIf (eBin oEq (eVar 0) (eC (.int 3))) (sEx (eCall c_explains (aCons (eVar 1) (aCons (eVar 2) (aCons (eVar 3) (aCons (eC .non) aNil)))))) (sEx (eCall c_may_follow (aCons (eVar 1) (aCons (eVar 2) (aCons (eVar 3) (aCons (eBin oIx (eVar 4) (eC (.int 0))) (aCons (eBin oIx (eVar 4) (eC (.int 1))) (aCons (eBin oIx (eVar 4) (eC (.int 2))) aNil))))))))))))
def c__law_call : List Val → Hea → Res Val := runB 5 5 b__law_call
def b__law_told : En → Hea → SRes := (sSeq (sTryM [(sub_BadNumber, (sRet (eLst (lDisp (aCons (eC (.str "number")) (aCons (eCB gReprD (aCons (eUn oExF (eVar 5)) aNil)) aNil)))))), (sub_BadTold, (sRet (eLst (lDisp (aCons (eC (.str "told")) (aCons (eUn oExF (eVar 5)) aNil)))))), (sub_BadGame, (sRet (eLst (lDisp (aCons (eC (.str "game")) (aCons (eCB gReprD (aCons (eUn oExF (eVar 5)) aNil)) aNil))))))] 5 (sEx (eCall c__law_call (aCons (eVar 0) (aCons (eVar 1) (aCons (eVar 2) (aCons (eVar 3) (aCons (eVar 4) aNil))))))))
  (sRet (eLst (lDisp aNil))))
def c__law_told : List Val → Hea → Res Val := runB 5 6 b__law_told
def l__law_far_right_0 : En → Hea → SRes := (sIf (eBin oNe (eCall c__law_told (aCons (eVar 0) (aCons (eC (.int 0)) (aCons (eC (.int 23)) (aCons (eLst (lDisp (aCons (eVar 1) aNil))) (aCons (eLst (lDisp (aCons (eC (.int 0)) (aCons (eC (.int 0)) (aCons (eC (.str "draw")) aNil))))) aNil)))))) (eLst (lDisp (aCons (eC (.str "told")) (aCons (eC (.int 0)) aNil))))) (sRet (eC (.bl false))) sNil)
def l__law_far_right_1 : En → Hea → SRes := (sIf (eBin oNe (eCall c__law_told (aCons (eVar 0) (aCons (eC (.int 0)) (aCons (eC (.int 23)) (aCons (eLst (lDisp (aCons (eVar 2) aNil))) (aCons (eLst (lDisp (aCons (eC (.int 0)) (aCons (eC (.int 0)) (aCons (eC (.str "draw")) aNil))))) aNil)))))) (eLst (lDisp aNil))) (sRet (eC (.bl false))) sNil)
def l__law_far_right_2 : En → Hea → SRes := (sSeq (sFor (iTmp (lDisp (aCons (eTup (aCons (eC (.int 0)) (aCons (eC (.int 0)) (aCons (eC (.str "draw")) (aCons (eC (.int 10)) (aCons (eC (.int 0)) aNil)))))) (aCons (eTup (aCons (eC (.int 12)) (aCons (eC (.int 0)) (aCons (eC (.str "draw")) (aCons (eC (.int 2)) (aCons (eC (.int 0)) aNil)))))) (aCons (eTup (aCons (eC (.int 9)) (aCons (eC (.int 0)) (aCons (eC (.str "draw")) (aCons (eC (.int 23)) (aCons (eC (.int 0)) aNil)))))) (aCons (eTup (aCons (eC (.int 13)) (aCons (eC (.int 12)) (aCons (eC (.str "draw")) (aCons (eC (.int 13)) (aCons (eC (.int 2)) aNil)))))) (aCons (eTup (aCons (eC (.int 13)) (aCons (eC (.int 12)) (aCons (eC (.str "draw")) (aCons (eC (.int 13)) (aCons (eC (.int 22)) aNil)))))) aNil))))))) (gN 1) l__law_far_right_0)
  (sFor (iTmp (lDisp (aCons (eTup (aCons (eC (.int 0)) (aCons (eC (.int 0)) (aCons (eC (.str "draw")) (aCons (eC (.int 9)) (aCons (eC (.int 0)) aNil)))))) (aCons (eTup (aCons (eC (.int 12)) (aCons (eC (.int 0)) (aCons (eC (.str "draw")) (aCons (eC (.int 3)) (aCons (eC (.int 0)) aNil)))))) (aCons (eTup (aCons (eC (.int 14)) (aCons (eC (.int 0)) (aCons (eC (.str "draw")) (aCons (eC (.int 23)) (aCons (eC (.int 0)) aNil)))))) (aCons (eTup (aCons (eC (.int 13)) (aCons (eC (.int 12)) (aCons (eC (.str "draw")) (aCons (eC (.int 13)) (aCons (eC (.int 21)) aNil)))))) aNil)))))) (gN 2) l__law_far_right_1))
def b__law_far_right : En → Hea → SRes := (sSeq (sFor (iRng1V (aCons (eC (.int 5)) aNil)) (gN 0) l__law_far_right_2)
  (sRet (eC (.bl true))))
def c__law_far_right : List Val → Hea → Res Val := runB 0 3 b__law_far_right
def l_law_0 : En → Hea → SRes := (sIf (eBin oNe (eCall c__law_told (aCons (eVar 7) (aCons (eVar 8) (aCons (eC .non) (aCons (eC .non) (aCons (eBin oMul (eLst (lDisp (aCons (eC .non) aNil))) (eC (.int 3))) aNil)))))) (eLst (lDisp (aCons (eC (.str "number")) (aCons (eCB gReprD (aCons (eVar 8) aNil)) aNil))))) (sRet (eC (.bl false))) sNil)
def l_law_1 : En → Hea → SRes := (sIf (eBin oNe (eCall c__law_told (aCons (eVar 7) (aCons (eVar 3) (aCons (eVar 8) (aCons (eC .non) (aCons (eBin oMul (eLst (lDisp (aCons (eC .non) aNil))) (eC (.int 3))) aNil)))))) (eLst (lDisp (aCons (eC (.str "number")) (aCons (eCB gReprD (aCons (eVar 8) aNil)) aNil))))) (sRet (eC (.bl false))) sNil)
def l_law_2 : En → Hea → SRes := (sIf (eBin oNe (eCall c__law_told (aCons (eVar 7) (aCons (eVar 3) (aCons (eVar 4) (aCons (eVar 8) (aCons (eBin oMul (eLst (lDisp (aCons (eC .non) aNil))) (eC (.int 3))) aNil)))))) (eLst (lDisp (aCons (eC (.str "told")) (aCons (eC .non) aNil))))) (sRet (eC (.bl false))) sNil)
def l_law_3 : En → Hea → SRes := (sIf (eBin oNe (eCall c__law_told (aCons (eVar 7) (aCons (eVar 3) (aCons (eVar 4) (aCons (eBin oAdd (eVar 5) (eLst (lDisp (aCons (eVar 8) (aCons (eC .non) aNil))))) (aCons (eBin oMul (eLst (lDisp (aCons (eC .non) aNil))) (eC (.int 3))) aNil)))))) (eLst (lDisp (aCons (eC (.str "told")) (aCons (eC (.int 2)) aNil))))) (sRet (eC (.bl false))) sNil)
def l_law_4 : En → Hea → SRes := (sSeq (sForK [8] (iTmp (lDisp (aCons (eC .non) (aCons (eUn oNeg (eC (.int 1))) (aCons (eC (.int 24)) (aCons (eC (.bl true)) (aCons (eC (.str "1")) aNil))))))) (gN 8) l_law_0)
  (sSeq (sForK [8] (iTmp (lDisp (aCons (eC .non) (aCons (eBin oSub (eVar 3) (eC (.int 1))) (aCons (eC (.int 24)) (aCons (eC (.bl true)) aNil)))))) (gN 8) l_law_1)
  (sSeq (sForK [8] (iTmp (lDisp (aCons (eC .non) (aCons (eC (.int 5)) (aCons (eC (.str "ab")) (aCons eD0 aNil)))))) (gN 8) l_law_2)
  (sSeq (sForK [8] (iSeq (eVar 6)) (gN 8) l_law_3)
  (sIf (eBin oNe (eCall c__law_told (aCons (eVar 7) (aCons (eVar 3) (aCons (eVar 4) (aCons (eVar 5) (aCons (eLst (lDisp (aCons (eVar 4) (aCons (eVar 3) (aCons (eC (.str "draw")) aNil))))) aNil)))))) (eLst (lDisp aNil))) (sRet (eC (.bl false))) sNil)))))
def l_law_5 : En → Hea → SRes := (sIf (eBin oNe (eCall c__law_told (aCons (eC (.int 4)) (aCons (eVar 3) (aCons (eVar 4) (aCons (eVar 5) (aCons (eLst (lDisp (aCons (eVar 8) (aCons (eC .non) (aCons (eC .non) aNil))))) aNil)))))) (eLst (lDisp (aCons (eC (.str "game")) (aCons (eCB gReprD (aCons (eVar 8) aNil)) aNil))))) (sRet (eC (.bl false))) sNil)
def l_law_6 : En → Hea → SRes := (sIf (eBin oNe (eCall c__law_told (aCons (eC (.int 4)) (aCons (eVar 3) (aCons (eVar 4) (aCons (eVar 5) (aCons (eLst (lDisp (aCons (eVar 4) (aCons (eVar 8) (aCons (eC .non) aNil))))) aNil)))))) (eLst (lDisp (aCons (eC (.str "game")) (aCons (eCB gReprD (aCons (eVar 8) aNil)) aNil))))) (sRet (eC (.bl false))) sNil)
def l_law_7 : En → Hea → SRes := (sIf (eBin oNe (eCall c__law_told (aCons (eC (.int 4)) (aCons (eVar 3) (aCons (eVar 4) (aCons (eVar 5) (aCons (eLst (lDisp (aCons (eVar 3) (aCons (eVar 3) (aCons (eVar 8) aNil))))) aNil)))))) (eLst (lDisp (aCons (eC (.str "game")) (aCons (eCB gReprD (aCons (eVar 8) aNil)) aNil))))) (sRet (eC (.bl false))) sNil)
def l_law_8 : En → Hea → SRes := (sSeq (sSet 2 (eCall c__law_pool (aCons (eVar 0) (aCons (eVar 1) aNil))))
  (sSeq (sSet 3 (eBin oAdd (eC (.int 2)) (eCall c__law_draw (aCons (eVar 2) (aCons (eC (.int 5)) aNil)))))
  (sSeq (sSet 4 (eBin oAdd (eVar 3) (eCall c__law_draw (aCons (eVar 2) (aCons (eC (.int 5)) aNil)))))
  (sSeq (sSet 5 (eLst (lDisp (aCons (eTup (aCons (eVar 3) (aCons (eVar 3) (aCons (eC (.str "draw")) (aCons (eVar 3) (aCons (eVar 3) aNil)))))) (aCons (eTup (aCons (eVar 4) (aCons (eVar 3) (aCons (eC (.str "upper")) (aCons (eVar 4) (aCons (eVar 4) aNil)))))) aNil)))))
  (sSeq (sSet 6 (eNew (lDisp (aCons (eC .non) (aCons (eC (.int 5)) (aCons (eCutA (eBin oIx (eVar 5) (eC (.int 0))) none (some (eC (.int 4)))) (aCons (eLst (lOf (eBin oIx (eVar 5) (eC (.int 0))))) (aCons (eTup (aCons (eBin oSub (eVar 3) (eC (.int 1))) (aCons (eBin oSub (eVar 3) (eC (.int 1))) (aCons (eC (.str "draw")) (aCons (eVar 3) (aCons (eVar 3) aNil)))))) (aCons (eTup (aCons (eVar 3) (aCons (eBin oAdd (eVar 4) (eC (.int 1))) (aCons (eC (.str "draw")) (aCons (eVar 3) (aCons (eVar 3) aNil)))))) aNil)))))))))
  (sSeq (sSet 6 (eNew (lAdd (eVar 6) (eLst (lDisp (aCons (eTup (aCons (eVar 3) (aCons (eVar 3) (aCons (eC (.str "win")) (aCons (eVar 3) (aCons (eVar 3) aNil)))))) (aCons (eTup (aCons (eVar 3) (aCons (eVar 3) (aCons (eC .non) (aCons (eVar 3) (aCons (eVar 3) aNil)))))) (aCons (eTup (aCons (eVar 3) (aCons (eVar 3) (aCons (eC (.str "draw")) (aCons (eBin oAdd (eVar 4) (eC (.int 1))) (aCons (eVar 3) aNil)))))) aNil))))))))
  (sSeq (sSet 6 (eNew (lAdd (eVar 6) (eLst (lDisp (aCons (eTup (aCons (eVar 3) (aCons (eVar 3) (aCons (eC (.str "draw")) (aCons (eVar 3) (aCons (eBin oSub (eVar 3) (eC (.int 1))) aNil)))))) (aCons (eTup (aCons (eVar 3) (aCons (eVar 3) (aCons (eC (.str "draw")) (aCons (eC (.bl true)) (aCons (eVar 3) aNil)))))) (aCons (eTup (aCons (eVar 3) (aCons (eVar 3) (aCons (eLst (lDisp (aCons (eC (.str "draw")) aNil))) (aCons (eVar 3) (aCons (eVar 3) aNil)))))) aNil))))))))
  (sSeq (sIf (eBin oGt (eVar 4) (eVar 3)) (sEx (eApp (eVar 6) (eTup (aCons (eVar 3) (aCons (eVar 4) (aCons (eC (.str "draw")) (aCons (eVar 3) (aCons (eVar 4) aNil)))))))) sNil)
  (sSeq (sForK [7, 8] (iRng1V (aCons (eC (.int 5)) aNil)) (gN 7) l_law_4)
  (sSeq (sForK [8] (iTmp (lDisp (aCons (eC .non) (aCons (eBin oSub (eVar 3) (eC (.int 1))) (aCons (eBin oAdd (eVar 4) (eC (.int 1))) (aCons (eC (.bl true)) aNil)))))) (gN 8) l_law_5)
  (sSeq (sForK [8] (iTmp (lDisp (aCons (eC .non) (aCons (eBin oSub (eVar 3) (eC (.int 1))) (aCons (eBin oAdd (eVar 4) (eC (.int 1))) (aCons (eC (.bl true)) aNil)))))) (gN 8) l_law_6)
  (sSeq (sIf (eAnd (eBin oGt (eVar 4) (eVar 3)) (eBin oNe (eCall c__law_told (aCons (eC (.int 4)) (aCons (eVar 3) (aCons (eVar 4) (aCons (eVar 5) (aCons (eLst (lDisp (aCons (eVar 3) (aCons (eVar 4) (aCons (eC (.str "draw")) aNil))))) aNil)))))) (eLst (lDisp (aCons (eC (.str "game")) (aCons (eCB gReprD (aCons (eVar 4) aNil)) aNil)))))) (sRet (eC (.bl false))) sNil)
  (sForK [8] (iTmp (lDisp (aCons (eC .non) (aCons (eC (.str "win")) (aCons (eC (.int 5)) (aCons (eLst (lDisp (aCons (eC (.str "draw")) aNil))) aNil)))))) (gN 8) l_law_7)))))))))))))
def b_law : En → Hea → SRes := (sSeq (sIf (eUn oNot (eCall0 c__law_far_right)) (sRet (eC (.bl false))) sNil)
  (sSeq (sForK [1, 2, 3, 4, 5, 6, 7, 8] (iRng1V (aCons (eCB gMax2 (aCons (eC (.int 1)) (aCons (eCB gMin2 (aCons (eIt gLen (eVar 0)) (aCons (eC (.int 2)) aNil))) aNil))) aNil)) (gN 1) l_law_8)
  (sRet (eC (.bl true)))))
def c_law : List Val → Hea → Res Val := runB 1 9 b_law
/-- the plain law: every script of at most 63 ints gives True -/
def Plain : Prop := ∀ ns : List Int, ns.length ≤ 63 → ∃ h, c_law [.ref 0] [.fro ns] = .ok (.bl true) h
end K78
end
/-! ## K78A -/
section
set_option maxRecDepth 100000
set_option maxHeartbeats 1000000
namespace K78
open PySem L2 Lad
theorem nmOk0 : ∀ m, m < 100 → ∀ n, n < 100 → nmN m = nmN n → m = n := by decide +kernel
theorem nmOk {K : PySem.W.Frag} : NmOk (TT K) := fun m n hm hn e => nmOk0 m hm n hn e
abbrev e_BadNumber : ErD := ⟨"BadNumber", inClass (top 2) 0, "BadNumber.__init__", "number"⟩
theorem ini_BadNumber : InitOk e_BadNumber.st e_BadNumber.fld := ⟨⟨_, _, _, _, _, _, _, _, _, _, _, _, rfl, fun env => ⟨_, rfl⟩⟩, ⟨_, _, rfl⟩, by decide +kernel, rfl, rfl, rfl, by decide +kernel, by decide +kernel, by decide +kernel, by decide +kernel, by decide +kernel, by decide +kernel⟩
abbrev e_BadGame : ErD := ⟨"BadGame", inClass (top 3) 0, "BadGame.__init__", "value"⟩
theorem ini_BadGame : InitOk e_BadGame.st e_BadGame.fld := ⟨⟨_, _, _, _, _, _, _, _, _, _, _, _, rfl, fun env => ⟨_, rfl⟩⟩, ⟨_, _, rfl⟩, by decide +kernel, rfl, rfl, rfl, by decide +kernel, by decide +kernel, by decide +kernel, by decide +kernel, by decide +kernel, by decide +kernel⟩
abbrev e_BadTold : ErD := ⟨"BadTold", inClass (top 4) 0, "BadTold.__init__", "index"⟩
theorem ini_BadTold : InitOk e_BadTold.st e_BadTold.fld := ⟨⟨_, _, _, _, _, _, _, _, _, _, _, _, rfl, fun env => ⟨_, rfl⟩⟩, ⟨_, _, rfl⟩, by decide +kernel, rfl, rfl, rfl, by decide +kernel, by decide +kernel, by decide +kernel, by decide +kernel, by decide +kernel, by decide +kernel⟩
structure Txt (P : Program) (K : PySem.W.Frag) (mg : Str → Option Value) : Prop where
  z_abs : mg "abs" = none
  z_all : mg "all" = none
  z_any : mg "any" = none
  z_bool : mg "bool" = none
  z_enumerate : mg "enumerate" = none
  z_int : mg "int" = none
  z_isinstance : mg "isinstance" = none
  z_len : mg "len" = none
  z_list : mg "list" = none
  z_max : mg "max" = none
  z_min : mg "min" = none
  z_range : mg "range" = none
  z_repr : mg "repr" = none
  z_sorted : mg "sorted" = none
  z_str : mg "str" = none
  z_tuple : mg "tuple" = none
  z_zip : mg "zip" = none
  F_is_whole : Fun K "is_whole" "is_whole" (top 7) (He.ga K "is_whole") (fdOf K (He.ga K "is_whole"))
  g_is_whole : mg "is_whole" = some (.ref (He.ga K "is_whole"))
  F_is_result : Fun K "is_result" "is_result" (top 10) (He.ga K "is_result") (fdOf K (He.ga K "is_result"))
  g_is_result : mg "is_result" = some (.ref (He.ga K "is_result"))
  F_bounds_of : Fun K "bounds_of" "bounds_of" (top 18) (He.ga K "bounds_of") (fdOf K (He.ga K "bounds_of"))
  g_bounds_of : mg "bounds_of" = some (.ref (He.ga K "bounds_of"))
  F_common : Fun K "common" "common" (top 19) (He.ga K "common") (fdOf K (He.ga K "common"))
  g_common : mg "common" = some (.ref (He.ga K "common"))
  F_sorted_pairs : Fun K "sorted_pairs" "sorted_pairs" (top 27) (He.ga K "sorted_pairs") (fdOf K (He.ga K "sorted_pairs"))
  g_sorted_pairs : mg "sorted_pairs" = some (.ref (He.ga K "sorted_pairs"))
  F_cut : Fun K "cut" "cut" (top 30) (He.ga K "cut") (fdOf K (He.ga K "cut"))
  g_cut : mg "cut" = some (.ref (He.ga K "cut"))
  F__law_pool : Fun K "_law_pool" "_law_pool" (top 35) (He.ga K "_law_pool") (fdOf K (He.ga K "_law_pool"))
  g__law_pool : mg "_law_pool" = some (.ref (He.ga K "_law_pool"))
  F__law_draw : Fun K "_law_draw" "_law_draw" (top 36) (He.ga K "_law_draw") (fdOf K (He.ga K "_law_draw"))
  g__law_draw : mg "_law_draw" = some (.ref (He.ga K "_law_draw"))
  F_Runs_least : Fun K "least" "Runs.least" (inClass (top 22) 1) (He.ma K (He.ga K "Runs") "least") (fdOf K (He.ma K (He.ga K "Runs") "least"))
  F_Runs_within : Fun K "within" "Runs.within" (inClass (top 22) 2) (He.ma K (He.ga K "Runs") "within") (fdOf K (He.ma K (He.ga K "Runs") "within"))
  F_Runs_fewest : Fun K "fewest" "Runs.fewest" (inClass (top 22) 6) (He.ma K (He.ga K "Runs") "fewest") (fdOf K (He.ma K (He.ga K "Runs") "fewest"))
  F_Runs_could_hold : Fun K "could_hold" "Runs.could_hold" (inClass (top 22) 8) (He.ma K (He.ga K "Runs") "could_hold") (fdOf K (He.ma K (He.ga K "Runs") "could_hold"))
  F_is_integer : Fun K "is_integer" "is_integer" (top 6) (He.ga K "is_integer") (fdOf K (He.ga K "is_integer"))
  g_is_integer : mg "is_integer" = some (.ref (He.ga K "is_integer"))
  F_ranges_of : Fun K "ranges_of" "ranges_of" (top 20) (He.ga K "ranges_of") (fdOf K (He.ga K "ranges_of"))
  g_ranges_of : mg "ranges_of" = some (.ref (He.ga K "ranges_of"))
  F_check_bounds : Fun K "check_bounds" "check_bounds" (top 15) (He.ga K "check_bounds") (fdOf K (He.ga K "check_bounds"))
  g_check_bounds : mg "check_bounds" = some (.ref (He.ga K "check_bounds"))
  F_is_told : Fun K "is_told" "is_told" (top 16) (He.ga K "is_told") (fdOf K (He.ga K "is_told"))
  g_is_told : mg "is_told" = some (.ref (He.ga K "is_told"))
  F_fit_one_row : Fun K "fit_one_row" "fit_one_row" (top 21) (He.ga K "fit_one_row") (fdOf K (He.ga K "fit_one_row"))
  g_fit_one_row : mg "fit_one_row" = some (.ref (He.ga K "fit_one_row"))
  F_row_for : Fun K "row_for" "row_for" (top 24) (He.ga K "row_for") (fdOf K (He.ga K "row_for"))
  g_row_for : mg "row_for" = some (.ref (He.ga K "row_for"))
  F_is_full_entry : Fun K "is_full_entry" "is_full_entry" (top 28) (He.ga K "is_full_entry") (fdOf K (He.ga K "is_full_entry"))
  g_is_full_entry : mg "is_full_entry" = some (.ref (He.ga K "is_full_entry"))
  F_check_told : Fun K "check_told" "check_told" (top 17) (He.ga K "check_told") (fdOf K (He.ga K "check_told"))
  g_check_told : mg "check_told" = some (.ref (He.ga K "check_told"))
  F_is_full_table : Fun K "is_full_table" "is_full_table" (top 29) (He.ga K "is_full_table") (fdOf K (He.ga K "is_full_table"))
  g_is_full_table : mg "is_full_table" = some (.ref (He.ga K "is_full_table"))
  F_Runs_fits : Fun K "fits" "Runs.fits" (inClass (top 22) 3) (He.ma K (He.ga K "Runs") "fits") (fdOf K (He.ma K (He.ga K "Runs") "fits"))
  F_unlike_games : Fun K "unlike_games" "unlike_games" (top 26) (He.ga K "unlike_games") (fdOf K (He.ga K "unlike_games"))
  g_unlike_games : mg "unlike_games" = some (.ref (He.ga K "unlike_games"))
  F_explains : Fun K "explains" "explains" (top 31) (He.ga K "explains") (fdOf K (He.ga K "explains"))
  g_explains : mg "explains" = some (.ref (He.ga K "explains"))
  F_Runs_firsts : Fun K "firsts" "Runs.firsts" (inClass (top 22) 4) (He.ma K (He.ga K "Runs") "firsts") (fdOf K (He.ma K (He.ga K "Runs") "firsts"))
  F_Runs_lasts : Fun K "lasts" "Runs.lasts" (inClass (top 22) 5) (He.ma K (He.ga K "Runs") "lasts") (fdOf K (He.ma K (He.ga K "Runs") "lasts"))
  F_Runs_is_row_of_fewest : Fun K "is_row_of_fewest" "Runs.is_row_of_fewest" (inClass (top 22) 7) (He.ma K (He.ga K "Runs") "is_row_of_fewest") (fdOf K (He.ma K (He.ga K "Runs") "is_row_of_fewest"))
  F_rows_for : Fun K "rows_for" "rows_for" (top 33) (He.ga K "rows_for") (fdOf K (He.ga K "rows_for"))
  g_rows_for : mg "rows_for" = some (.ref (He.ga K "rows_for"))
  F_Runs___init__ : Fun K "__init__" "Runs.__init__" (inClass (top 22) 0) (He.ma K (He.ga K "Runs") "__init__") (fdOf K (He.ma K (He.ga K "Runs") "__init__"))
  F_fewest_rows : Fun K "fewest_rows" "fewest_rows" (top 23) (He.ga K "fewest_rows") (fdOf K (He.ga K "fewest_rows"))
  g_fewest_rows : mg "fewest_rows" = some (.ref (He.ga K "fewest_rows"))
  F_told_table : Fun K "told_table" "told_table" (top 25) (He.ga K "told_table") (fdOf K (He.ga K "told_table"))
  g_told_table : mg "told_table" = some (.ref (He.ga K "told_table"))
  F_may_follow : Fun K "may_follow" "may_follow" (top 32) (He.ga K "may_follow") (fdOf K (He.ga K "may_follow"))
  g_may_follow : mg "may_follow" = some (.ref (He.ga K "may_follow"))
  F__law_call : Fun K "_law_call" "_law_call" (top 38) (He.ga K "_law_call") (fdOf K (He.ga K "_law_call"))
  g__law_call : mg "_law_call" = some (.ref (He.ga K "_law_call"))
  F__law_told : Fun K "_law_told" "_law_told" (top 39) (He.ga K "_law_told") (fdOf K (He.ga K "_law_told"))
  g__law_told : mg "_law_told" = some (.ref (He.ga K "_law_told"))
  F__law_far_right : Fun K "_law_far_right" "_law_far_right" (top 40) (He.ga K "_law_far_right") (fdOf K (He.ga K "_law_far_right"))
  g__law_far_right : mg "_law_far_right" = some (.ref (He.ga K "_law_far_right"))
  F_law : Fun K "law" "law" (top 41) (He.ga K "law") (fdOf K (He.ga K "law"))
  g_law : mg "law" = some (.ref (He.ga K "law"))
  nl : noList K = true
  con_MOST_CHANGE : ConOk K mg "MOST_CHANGE" k_MOST_CHANGE
  con_MOST_RATING : ConOk K mg "MOST_RATING" k_MOST_RATING
  con_OPEN : ConOk K mg "OPEN" k_OPEN
  con_RESULTS : ConOk K mg "RESULTS" k_RESULTS
  td_RESULTS : TupD K mg "RESULTS"
  g_LadderError : mg "LadderError" = some (.ref ((TT K).ca 0))
  g_BadNumber : mg "BadNumber" = some (.ref ((TT K).ca 1))
  g_BadGame : mg "BadGame" = some (.ref ((TT K).ca 4))
  g_BadTold : mg "BadTold" = some (.ref ((TT K).ca 20))
  g_Runs : mg "Runs" = some (.ref ((TT K).ca 45))
  er_BadNumber : ExTxt P K e_BadNumber.st ((TT K).ca 1) (erI K e_BadNumber) (erCc K e_BadNumber) (erCda K e_BadNumber) (fdOf K (erI K e_BadNumber)) "ValueError" "ValueError.__new__" "ValueError.__init__" He.veBase ((TT K).fld 1)
  xf_1 : XfC K ((TT K).ca 1) ∧ ExcC K ((TT K).ca 1)
  no_1 : PySem.W.findIn K (.ref ((TT K).ca 1)) "number" = some none
  er_BadGame : ExTxt P K e_BadGame.st ((TT K).ca 4) (erI K e_BadGame) (erCc K e_BadGame) (erCda K e_BadGame) (fdOf K (erI K e_BadGame)) "ValueError" "ValueError.__new__" "ValueError.__init__" He.veBase ((TT K).fld 4)
  xf_4 : XfC K ((TT K).ca 4) ∧ ExcC K ((TT K).ca 4)
  no_4 : PySem.W.findIn K (.ref ((TT K).ca 4)) "value" = some none
  er_BadTold : ExTxt P K e_BadTold.st ((TT K).ca 20) (erI K e_BadTold) (erCc K e_BadTold) (erCda K e_BadTold) (fdOf K (erI K e_BadTold)) "ValueError" "ValueError.__new__" "ValueError.__init__" He.veBase ((TT K).fld 20)
  xf_20 : XfC K ((TT K).ca 20) ∧ ExcC K ((TT K).ca 20)
  no_20 : PySem.W.findIn K (.ref ((TT K).ca 20)) "index" = some none
  exm_1_BadGame : PySem.W.exmOne K (.ref ((TT K).ca 1)) (.ref ((TT K).ca 4)) = some false
  exm_1_BadNumber : PySem.W.exmOne K (.ref ((TT K).ca 1)) (.ref ((TT K).ca 1)) = some true
  exm_1_BadTold : PySem.W.exmOne K (.ref ((TT K).ca 1)) (.ref ((TT K).ca 20)) = some false
  exm_4_BadGame : PySem.W.exmOne K (.ref ((TT K).ca 4)) (.ref ((TT K).ca 4)) = some true
  exm_4_BadNumber : PySem.W.exmOne K (.ref ((TT K).ca 4)) (.ref ((TT K).ca 1)) = some false
  exm_4_BadTold : PySem.W.exmOne K (.ref ((TT K).ca 4)) (.ref ((TT K).ca 20)) = some false
  exm_20_BadGame : PySem.W.exmOne K (.ref ((TT K).ca 20)) (.ref ((TT K).ca 4)) = some false
  exm_20_BadNumber : PySem.W.exmOne K (.ref ((TT K).ca 20)) (.ref ((TT K).ca 1)) = some false
  exm_20_BadTold : PySem.W.exmOne K (.ref ((TT K).ca 20)) (.ref ((TT K).ca 20)) = some true
  own_Runs : OwnC K ((TT K).ca 45)
  na_Runs_ahead : NoAttr K ((TT K).ca 45) "ahead"
  na_Runs_behind : NoAttr K ((TT K).ca 45) "behind"
  na_Runs_differences : NoAttr K ((TT K).ca 45) "differences"
  na_Runs_high : NoAttr K ((TT K).ca 45) "high"
  na_Runs_low : NoAttr K ((TT K).ca 45) "low"
  na_Runs_own_games : NoAttr K ((TT K).ca 45) "own_games"
  me_Runs_could_hold : Meth K ((TT K).ca 45) "could_hold" (He.ma K (He.ga K "Runs") "could_hold")
  me_Runs_fewest : Meth K ((TT K).ca 45) "fewest" (He.ma K (He.ga K "Runs") "fewest")
  me_Runs_firsts : Meth K ((TT K).ca 45) "firsts" (He.ma K (He.ga K "Runs") "firsts")
  me_Runs_fits : Meth K ((TT K).ca 45) "fits" (He.ma K (He.ga K "Runs") "fits")
  me_Runs_is_row_of_fewest : Meth K ((TT K).ca 45) "is_row_of_fewest" (He.ma K (He.ga K "Runs") "is_row_of_fewest")
  me_Runs_lasts : Meth K ((TT K).ca 45) "lasts" (He.ma K (He.ga K "Runs") "lasts")
  me_Runs_least : Meth K ((TT K).ca 45) "least" (He.ma K (He.ga K "Runs") "least")
  me_Runs_within : Meth K ((TT K).ca 45) "within" (He.ma K (He.ga K "Runs") "within")
  mk_Runs : Mk K ((TT K).ca 45) (He.ma K (He.ga K "Runs") "__init__")
section
variable {P : Program} {w : World} {K : PySem.W.Frag} {mg : Str → Option Value} {base : Heap}
end
abbrev N_is_whole : List Str := ["value"]
theorem sc_is_whole : FnScope N_is_whole ["value"] (defScope (top 7)) := ⟨rfl, rfl, rfl, by decide +kernel, rfl, by decide +kernel, by decide +kernel⟩
abbrev N_is_result : List Str := ["value"]
theorem sc_is_result : FnScope N_is_result ["value"] (defScope (top 10)) := ⟨rfl, rfl, rfl, by decide +kernel, rfl, by decide +kernel, by decide +kernel⟩
abbrev N_bounds_of : List Str := ["low", "high", "ahead", "behind", "least", "most"]
theorem sc_bounds_of : FnScope N_bounds_of ["low", "high", "ahead", "behind"] (defScope (top 18)) := ⟨rfl, rfl, rfl, by decide +kernel, rfl, by decide +kernel, by decide +kernel⟩
abbrev N_common : List Str := ["one", "other", "least", "most"]
theorem sc_common : FnScope N_common ["one", "other"] (defScope (top 19)) := ⟨rfl, rfl, rfl, by decide +kernel, rfl, by decide +kernel, by decide +kernel⟩
abbrev N_sorted_pairs : List Str := ["pairs", "found", "pair", "at", "other"]
theorem sc_sorted_pairs : FnScope N_sorted_pairs ["pairs"] (defScope (top 27)) := ⟨rfl, rfl, rfl, by decide +kernel, rfl, by decide +kernel, by decide +kernel⟩
abbrev N_cut : List Str := ["low", "high", "rating"]
theorem sc_cut : FnScope N_cut ["low", "high", "rating"] (defScope (top 30)) := ⟨rfl, rfl, rfl, by decide +kernel, rfl, by decide +kernel, by decide +kernel⟩
abbrev N__law_pool : List Str := ["_law_script", "_law_k", "_law_size", "_law_mixed"]
theorem sc__law_pool : FnScope N__law_pool ["_law_script", "_law_k"] (defScope (top 35)) := ⟨rfl, rfl, rfl, by decide +kernel, rfl, by decide +kernel, by decide +kernel⟩
abbrev N__law_draw : List Str := ["_law_pool_here", "_law_many", "_law_found"]
theorem sc__law_draw : FnScope N__law_draw ["_law_pool_here", "_law_many"] (defScope (top 36)) := ⟨rfl, rfl, rfl, by decide +kernel, rfl, by decide +kernel, by decide +kernel⟩
abbrev N_Runs_least : List Str := ["self", "numbers", "known", "number"]
theorem sc_Runs_least : FnScope N_Runs_least ["self", "numbers"] (defScope (inClass (top 22) 1)) := ⟨rfl, rfl, rfl, by decide +kernel, rfl, by decide +kernel, by decide +kernel⟩
abbrev N_Runs_within : List Str := ["self", "first", "last", "known", "game"]
theorem sc_Runs_within : FnScope N_Runs_within ["self", "first", "last"] (defScope (inClass (top 22) 2)) := ⟨rfl, rfl, rfl, by decide +kernel, rfl, by decide +kernel, by decide +kernel⟩
abbrev N_Runs_fewest : List Str := ["self"]
theorem sc_Runs_fewest : FnScope N_Runs_fewest ["self"] (defScope (inClass (top 22) 6)) := ⟨rfl, rfl, rfl, by decide +kernel, rfl, by decide +kernel, by decide +kernel⟩
abbrev N_Runs_could_hold : List Str := ["self", "first", "last", "difference"]
theorem sc_Runs_could_hold : FnScope N_Runs_could_hold ["self", "first", "last", "difference"] (defScope (inClass (top 22) 8)) := ⟨rfl, rfl, rfl, by decide +kernel, rfl, by decide +kernel, by decide +kernel⟩
abbrev N_is_integer : List Str := ["value", "lowest", "highest"]
theorem sc_is_integer : FnScope N_is_integer ["value", "lowest", "highest"] (defScope (top 6)) := ⟨rfl, rfl, rfl, by decide +kernel, rfl, by decide +kernel, by decide +kernel⟩
abbrev N_ranges_of : List Str := ["low", "high", "games", "result", "upper", "lower", "game"]
theorem sc_ranges_of : FnScope N_ranges_of ["low", "high", "games", "result"] (defScope (top 20)) := ⟨rfl, rfl, rfl, by decide +kernel, rfl, by decide +kernel, by decide +kernel⟩
abbrev N_check_bounds : List Str := ["low", "high"]
theorem sc_check_bounds : FnScope N_check_bounds ["low", "high"] (defScope (top 15)) := ⟨rfl, rfl, rfl, by decide +kernel, rfl, by decide +kernel, by decide +kernel⟩
abbrev N_is_told : List Str := ["low", "high", "value", "ratings", "rating"]
theorem sc_is_told : FnScope N_is_told ["low", "high", "value"] (defScope (top 16)) := ⟨rfl, rfl, rfl, by decide +kernel, rfl, by decide +kernel, by decide +kernel⟩
abbrev N_fit_one_row : List Str := ["low", "high", "games", "result", "upper", "lower"]
theorem sc_fit_one_row : FnScope N_fit_one_row ["low", "high", "games"] (defScope (top 21)) := ⟨rfl, rfl, rfl, by decide +kernel, rfl, by decide +kernel, by decide +kernel⟩
abbrev N_row_for : List Str := ["low", "high", "border", "games", "entries", "result", "upper", "lower", "is_told_one", "game"]
theorem sc_row_for : FnScope N_row_for ["low", "high", "border", "games"] (defScope (top 24)) := ⟨rfl, rfl, rfl, by decide +kernel, rfl, by decide +kernel, by decide +kernel⟩
abbrev N_is_full_entry : List Str := ["value", "change"]
theorem sc_is_full_entry : FnScope N_is_full_entry ["value"] (defScope (top 28)) := ⟨rfl, rfl, rfl, by decide +kernel, rfl, by decide +kernel, by decide +kernel⟩
abbrev N_check_told : List Str := ["low", "high", "games", "index", "value"]
theorem sc_check_told : FnScope N_check_told ["low", "high", "games"] (defScope (top 17)) := ⟨rfl, rfl, rfl, by decide +kernel, rfl, by decide +kernel, by decide +kernel⟩
abbrev N_is_full_table : List Str := ["value", "row", "entry", "one", "other"]
theorem sc_is_full_table : FnScope N_is_full_table ["value"] (defScope (top 29)) := ⟨rfl, rfl, rfl, by decide +kernel, rfl, by decide +kernel, by decide +kernel⟩
abbrev N_Runs_fits : List Str := ["self", "first", "last"]
theorem sc_Runs_fits : FnScope N_Runs_fits ["self", "first", "last"] (defScope (inClass (top 22) 3)) := ⟨rfl, rfl, rfl, by decide +kernel, rfl, by decide +kernel, by decide +kernel⟩
abbrev N_unlike_games : List Str := ["low", "high", "games", "found", "at", "other", "index", "one", "is_alike"]
theorem sc_unlike_games : FnScope N_unlike_games ["low", "high", "games"] (defScope (top 26)) := ⟨rfl, rfl, rfl, by decide +kernel, rfl, by decide +kernel, by decide +kernel⟩
abbrev N_explains : List Str := ["low", "high", "games", "table", "upper", "lower", "result", "one", "other", "row", "entry"]
theorem sc_explains : FnScope N_explains ["low", "high", "games", "table"] (defScope (top 31)) := ⟨rfl, rfl, rfl, by decide +kernel, rfl, by decide +kernel, by decide +kernel⟩
abbrev N_Runs_firsts : List Str := ["self", "end", "first"]
theorem sc_Runs_firsts : FnScope N_Runs_firsts ["self", "end"] (defScope (inClass (top 22) 4)) := ⟨rfl, rfl, rfl, by decide +kernel, rfl, by decide +kernel, by decide +kernel⟩
abbrev N_Runs_lasts : List Str := ["self", "first", "last"]
theorem sc_Runs_lasts : FnScope N_Runs_lasts ["self", "first"] (defScope (inClass (top 22) 5)) := ⟨rfl, rfl, rfl, by decide +kernel, rfl, by decide +kernel, by decide +kernel⟩
abbrev N_Runs_is_row_of_fewest : List Str := ["self", "first", "last", "ahead", "behind"]
theorem sc_Runs_is_row_of_fewest : FnScope N_Runs_is_row_of_fewest ["self", "first", "last"] (defScope (inClass (top 22) 7)) := ⟨rfl, rfl, rfl, by decide +kernel, rfl, by decide +kernel, by decide +kernel⟩
abbrev N_rows_for : List Str := ["runs", "difference", "result", "many", "found", "first", "last"]
theorem sc_rows_for : FnScope N_rows_for ["runs", "difference", "result"] (defScope (top 33)) := ⟨rfl, rfl, rfl, by decide +kernel, rfl, by decide +kernel, by decide +kernel⟩
abbrev N_Runs___init__ : List Str := ["self", "low", "high", "games", "many", "end", "first", "game", "last"]
theorem sc_Runs___init__ : FnScope N_Runs___init__ ["self", "low", "high", "games"] (defScope (inClass (top 22) 0)) := ⟨rfl, rfl, rfl, by decide +kernel, rfl, by decide +kernel, by decide +kernel⟩
abbrev N_fewest_rows : List Str := ["low", "high", "games"]
theorem sc_fewest_rows : FnScope N_fewest_rows ["low", "high", "games"] (defScope (top 23)) := ⟨rfl, rfl, rfl, by decide +kernel, rfl, by decide +kernel, by decide +kernel⟩
abbrev N_told_table : List Str := ["low", "high", "games", "runs", "found", "first", "last", "border", "at"]
theorem sc_told_table : FnScope N_told_table ["low", "high", "games"] (defScope (top 25)) := ⟨rfl, rfl, rfl, by decide +kernel, rfl, by decide +kernel, by decide +kernel⟩
abbrev N_may_follow : List Str := ["low", "high", "games", "upper", "lower", "result", "runs", "found", "one", "other", "change", "back"]
theorem sc_may_follow : FnScope N_may_follow ["low", "high", "games", "upper", "lower", "result"] (defScope (top 32)) := ⟨rfl, rfl, rfl, by decide +kernel, rfl, by decide +kernel, by decide +kernel⟩
abbrev N__law_call : List Str := ["_law_way", "_law_low", "_law_high", "_law_games", "_law_more"]
theorem sc__law_call : FnScope N__law_call ["_law_way", "_law_low", "_law_high", "_law_games", "_law_more"] (defScope (top 38)) := ⟨rfl, rfl, rfl, by decide +kernel, rfl, by decide +kernel, by decide +kernel⟩
abbrev N__law_told : List Str := ["_law_way", "_law_low", "_law_high", "_law_games", "_law_more", "e"]
theorem sc__law_told : FnScope N__law_told ["_law_way", "_law_low", "_law_high", "_law_games", "_law_more"] (defScope (top 39)) := ⟨rfl, rfl, rfl, by decide +kernel, rfl, by decide +kernel, by decide +kernel⟩
abbrev N__law_far_right : List Str := ["_law_way", "_law_odd", "_law_good"]
theorem sc__law_far_right : FnScope N__law_far_right [] (defScope (top 40)) := ⟨rfl, rfl, rfl, by decide +kernel, rfl, by decide +kernel, by decide +kernel⟩
abbrev N_law : List Str := ["_law_script", "_law_k", "_law_pool_here", "_law_low", "_law_high", "_law_good", "_law_bad", "_law_way", "_law_odd"]
theorem sc_law : FnScope N_law ["_law_script"] (defScope (top 41)) := ⟨rfl, rfl, rfl, by decide +kernel, rfl, by decide +kernel, by decide +kernel⟩
section
variable {P : Program} {w : World} {K : PySem.W.Frag} {mg : Str → Option Value} {base : Heap}
theorem ok_is_whole (t : Txt P K mg) : FnOk P w K mg base (L2.CX P w) 1 (He.ga K "is_whole") (fdOf K (He.ga K "is_whole")) ["value"] (spEv ⟨K, (TT K).ca, (TT K).nm, (TT K).fld, (TT K).ex⟩ c_is_whole) :=
  fn_ok (T := TT K) fin_ok t.F_is_whole sc_is_whole fun cdv A outer s H E hr => (ss_one (st_ret (se_and (se_isi (b := .int) rfl t.z_isinstance (se_var (pv 0)) (ty_of t.z_int (by decide +kernel))) (se_one (se_not (se_isi (b := .bool) rfl t.z_isinstance (se_var (pv 0)) (ty_of t.z_bool (by decide +kernel))))))))
theorem ok_is_result (t : Txt P K mg) : FnOk P w K mg base (L2.CX P w) 1 (He.ga K "is_result") (fdOf K (He.ga K "is_result")) ["value"] (spEv ⟨K, (TT K).ca, (TT K).nm, (TT K).fld, (TT K).ex⟩ c_is_result) :=
  fn_ok (T := TT K) fin_ok t.F_is_result sc_is_result fun cdv A outer s H E hr => (ss_one (st_ret (se_and (se_isi (b := .str) rfl t.z_isinstance (se_var (pv 0)) (ty_of t.z_str (by decide +kernel))) (se_one (se_cmp (o_in (u65 hr)) (se_var (pv 0)) (se_con t.con_RESULTS) (by with_unfolding_all rfl))))))
theorem ok_bounds_of (t : Txt P K mg) : FnOk P w K mg base (L2.CX P w) 1 (He.ga K "bounds_of") (fdOf K (He.ga K "bounds_of")) ["low", "high", "ahead", "behind"] (spEv ⟨K, (TT K).ca, (TT K).nm, (TT K).fld, (TT K).ex⟩ c_bounds_of) :=
  fn_ok (T := TT K) fin_ok t.F_bounds_of sc_bounds_of fun cdv A outer s H E hr => (ss_cons (st_set (i := 4) sc_bounds_of.nd rfl (Or.inl rfl) (se_if (st_cmp (o_eq hr.units) (se_var (pv 3)) (se_var (pv 0)) (nomark _)) (se_un o_neg (se_con t.con_MOST_CHANGE)) (se_bin o_sub (se_var (pv 3)) (se_var (pv 2)))))
  (ss_cons (st_set (i := 5) sc_bounds_of.nd rfl (Or.inl rfl) (se_if (st_cmp (o_eq hr.units) (se_var (pv 3)) (se_var (pv 1)) (nomark _)) (se_con t.con_MOST_CHANGE) (se_bin o_sub (se_var (pv 3)) (se_var (pv 2)))))
  (ss_one (st_ret (se_tup (sa_cons (se_var (pv 4)) (sa_cons (se_var (pv 5)) sa_nil)))))))
theorem ok_common (t : Txt P K mg) : FnOk P w K mg base (L2.CX P w) 1 (He.ga K "common") (fdOf K (He.ga K "common")) ["one", "other"] (spEv ⟨K, (TT K).ca, (TT K).nm, (TT K).fld, (TT K).ex⟩ c_common) :=
  fn_ok (T := TT K) fin_ok t.F_common sc_common fun cdv A outer s H E hr => (ss_cons (st_set (i := 2) sc_common.nd rfl (Or.inl rfl) (se_if (st_cmp o_gt (se_ix (se_var (pv 0)) se_int) (se_ix (se_var (pv 1)) se_int) (nomark _)) (se_ix (se_var (pv 0)) se_int) (se_ix (se_var (pv 1)) se_int)))
  (ss_cons (st_set (i := 3) sc_common.nd rfl (Or.inl rfl) (se_if (st_cmp o_lt (se_ix (se_var (pv 0)) se_int) (se_ix (se_var (pv 1)) se_int) (nomark _)) (se_ix (se_var (pv 0)) se_int) (se_ix (se_var (pv 1)) se_int)))
  (ss_one (st_ret (se_tup (sa_cons (se_var (pv 2)) (sa_cons (se_var (pv 3)) sa_nil)))))))
theorem ok_sorted_pairs (t : Txt P K mg) : FnOk P w K mg base (L2.CX P w) 1 (He.ga K "sorted_pairs") (fdOf K (He.ga K "sorted_pairs")) ["pairs"] (spEv ⟨K, (TT K).ca, (TT K).nm, (TT K).fld, (TT K).ex⟩ c_sorted_pairs) :=
  fn_ok (T := TT K) fin_ok t.F_sorted_pairs sc_sorted_pairs fun cdv A outer s H E hr => (ss_cons (st_set (i := 1) sc_sorted_pairs.nd rfl (Or.inl rfl) (se_lst (sl_lst sa_nil)))
  (ss_cons (st_for (passes_of rfl) rfl (si_seq (se_var (pv 0))) (pg_name (i := 2) sc_sorted_pairs.nd rfl (Or.inr rfl)) (gok_name (vs := [2]) (by simp)) (ss_cons (st_set (i := 3) sc_sorted_pairs.nd rfl (Or.inl rfl) (se_itL g_len t.z_len (by decide +kernel) (sl_comp (own := [("other", 4)]) (b := (gN 4)) rfl sc_sorted_pairs.nd (si_seq (se_var (pv 1))) (blkOk_by (own := [("other", 4)]) (N := N_sorted_pairs) (sc := defScope (top 27)) (by decide +kernel)) (fun _ _ _ _ _ => (pg_name (i := 4) sc_sorted_pairs.nd rfl (Or.inl rfl))) (gok_name (vs := [4]) (by simp)) (fun _ _ _ _ _ => (sts_one (st_cmp (o_ltT (by have z := u1 hr; exact z)) (se_var (pv 4)) (se_var (pv 2)) (nomark _)))) (fun _ _ _ _ _ => (se_var (pv 4))))))
  (ss_one (st_set (i := 1) sc_sorted_pairs.nd rfl (Or.inl rfl) (se_lst (sl_lst (sa_star (se_cutA (se_var (pv 1)) so_none (so_some (se_var (pv 3)))) (sa_cons (se_var (pv 2)) (sa_star (se_cutA (se_var (pv 1)) (so_some (se_var (pv 3))) so_none) sa_nil)))))))))
  (ss_one (st_ret (se_var (pv 1))))))
theorem ok_cut (t : Txt P K mg) : FnOk P w K mg base (L2.CX P w) 1 (He.ga K "cut") (fdOf K (He.ga K "cut")) ["low", "high", "rating"] (spEv ⟨K, (TT K).ca, (TT K).nm, (TT K).fld, (TT K).ex⟩ c_cut) :=
  fn_ok (T := TT K) fin_ok t.F_cut sc_cut fun cdv A outer s H E hr => (ss_one (st_ret (se_cb (g_min2 rfl) t.z_min (by decide +kernel) (sa_cons (se_ct g_int t.z_int (by decide +kernel) (sa_cons (se_var (pv 1)) sa_nil)) (sa_cons (se_cb (g_max2 rfl) t.z_max (by decide +kernel) (sa_cons (se_ct g_int t.z_int (by decide +kernel) (sa_cons (se_var (pv 0)) sa_nil)) (sa_cons (se_ct g_int t.z_int (by decide +kernel) (sa_cons (se_var (pv 2)) sa_nil)) sa_nil))) sa_nil)))))
theorem ok__law_pool (t : Txt P K mg) : FnOk P w K mg base (L2.CX P w) 1 (He.ga K "_law_pool") (fdOf K (He.ga K "_law_pool")) ["_law_script", "_law_k"] (spEv ⟨K, (TT K).ca, (TT K).nm, (TT K).fld, (TT K).ex⟩ c__law_pool) :=
  fn_ok (T := TT K) finK_ok t.F__law_pool sc__law_pool fun cdv A outer s H E hr => (ss_cons (st_set (i := 2) sc__law_pool.nd rfl (Or.inl rfl) (se_if (st_cmp o_lt (se_var (pv 1)) (se_it g_len t.z_len (by decide +kernel) (se_var (pv 0))) (nomark _)) (se_cb (g_max2 rfl) t.z_max (by decide +kernel) (sa_cons (se_ct g_int t.z_int (by decide +kernel) (sa_cons (se_ix (se_var (pv 0)) (se_var (pv 1))) sa_nil)) (sa_cons (se_ct g_int t.z_int (by decide +kernel) (sa_cons (se_bin o_sub (se_un o_neg se_int) (se_ix (se_var (pv 0)) (se_var (pv 1)))) sa_nil)) sa_nil))) se_int))
  (ss_cons (st_set (i := 3) sc__law_pool.nd rfl (Or.inl rfl) (se_bin o_add (se_bin o_mod (se_ct g_int t.z_int (by decide +kernel) (sa_cons (se_bin o_mul (se_bin o_add (se_bin o_mod (se_ct g_int t.z_int (by decide +kernel) (sa_cons (se_var (pv 2)) sa_nil)) se_int) (se_bin o_mul se_int (se_bin o_add (se_var (pv 1)) se_int))) se_int) sa_nil)) se_int) se_int))
  (ss_one (st_ret (se_new (sl_lst (sa_cons (se_bin o_mul (se_var (pv 2)) (se_ct g_int t.z_int (by decide +kernel) (sa_cons (se_cmp o_ge (se_var (pv 2)) (se_bin o_pow se_int se_int) (nomark _)) sa_nil))) (sa_cons (se_bin o_mod (se_ct g_int t.z_int (by decide +kernel) (sa_cons (se_bin o_mul (se_var (pv 3)) (se_var (pv 3))) sa_nil)) se_int) sa_nil))))))))
theorem ok__law_draw (t : Txt P K mg) : FnOk P w K mg base (L2.CX P w) 1 (He.ga K "_law_draw") (fdOf K (He.ga K "_law_draw")) ["_law_pool_here", "_law_many"] (spEv ⟨K, (TT K).ca, (TT K).nm, (TT K).fld, (TT K).ex⟩ c__law_draw) :=
  fn_ok (T := TT K) fin_ok t.F__law_draw sc__law_draw fun cdv A outer s H E hr => (ss_cons (st_if (st_cmp o_gt (se_ix (se_var (pv 0)) se_int) se_int (nomark _)) (ss_cons (st_set (i := 2) sc__law_draw.nd rfl (Or.inl rfl) (se_bin o_mod (se_ct g_int t.z_int (by decide +kernel) (sa_cons (se_ix (se_var (pv 0)) se_int) sa_nil)) (se_var (pv 1))))
  (ss_cons (st_setIx (se_bin o_div (se_ix (se_var (pv 0)) se_int) (se_var (pv 1))) (se_var (pv 0)) se_int)
  (ss_one (st_ret (se_var (pv 2)))))) ss_nil)
  (ss_cons (st_setIx (se_bin o_mod (se_ct g_int t.z_int (by decide +kernel) (sa_cons (se_bin o_add (se_bin o_mul (se_ix (se_var (pv 0)) se_int) se_int) se_int) sa_nil)) se_int) (se_var (pv 0)) se_int)
  (ss_one (st_ret (se_bin o_mod (se_ct g_int t.z_int (by decide +kernel) (sa_cons (se_bin o_div (se_bin o_mod (se_ct g_int t.z_int (by decide +kernel) (sa_cons (se_bin o_mul (se_ix (se_var (pv 0)) se_int) (se_ix (se_var (pv 0)) se_int)) sa_nil)) se_int) se_int) sa_nil)) (se_var (pv 1)))))))
theorem ok_Runs_least (t : Txt P K mg) : FnOk P w K mg base (L2.CX P w) 1 (He.ma K (He.ga K "Runs") "least") (fdOf K (He.ma K (He.ga K "Runs") "least")) ["self", "numbers"] (spEv ⟨K, (TT K).ca, (TT K).nm, (TT K).fld, (TT K).ex⟩ c_Runs_least) :=
  fn_ok (T := TT K) fin_ok t.F_Runs_least sc_Runs_least fun cdv A outer s H E hr => (ss_cons (st_setLcF (i := 2) (own := [("number", 3)]) (b := (gN 3)) rfl sc_Runs_least.nd rfl rfl rfl (si_seq (se_var (pv 1))) (blkOk_by (own := [("number", 3)]) (N := N_Runs_least) (sc := defScope (inClass (top 22) 1)) (by decide +kernel)) (fun _ _ _ _ _ => (pg_name (i := 3) sc_Runs_least.nd rfl (Or.inl rfl))) (gok_name (vs := [3]) (by simp)) (fun _ _ _ _ _ => (sts_one (st_cmp o_isNot (se_var (pv 3)) se_non (nomark _)))) (fun _ _ _ _ _ => (se_ct g_int t.z_int (by decide +kernel) (sa_cons (se_var (pv 3)) sa_nil))))
  (ss_one (st_ret (se_if (st_cmp (o_eq hr.units) (se_var (pv 2)) (se_lst (sl_lst sa_nil)) (nomark _)) se_non (se_bin o_add (se_ilL (g_min rfl) t.z_min (by decide +kernel) (sl_comp (own := [("number", 3)]) (b := (gN 3)) rfl sc_Runs_least.nd (si_seq (se_var (pv 2))) (blkOk_by (own := [("number", 3)]) (N := N_Runs_least) (sc := defScope (inClass (top 22) 1)) (by decide +kernel)) (fun _ _ _ _ _ => (pg_name (i := 3) sc_Runs_least.nd rfl (Or.inl rfl))) (gok_name (vs := [3]) (by simp)) (fun _ _ _ _ _ => sts_nil) (fun _ _ _ _ _ => (se_ct g_int t.z_int (by decide +kernel) (sa_cons (se_var (pv 3)) sa_nil))))) se_int)))))
theorem ok_Runs_within (t : Txt P K mg) : FnOk P w K mg base (L2.CX P w) 1 (He.ma K (He.ga K "Runs") "within") (fdOf K (He.ma K (He.ga K "Runs") "within")) ["self", "first", "last"] (spEv ⟨K, (TT K).ca, (TT K).nm, (TT K).fld, (TT K).ex⟩ c_Runs_within) :=
  fn_ok (T := TT K) fin_ok t.F_Runs_within sc_Runs_within fun cdv A outer s H E hr => (ss_cons (st_set (i := 3) sc_Runs_within.nd rfl (Or.inr rfl) (se_cutA (se_fld nmOk (by decide) rfl (fun c hc => by cases Nat.eq_of_beq_eq_true hc; exact ⟨t.own_Runs.cl, t.na_Runs_differences⟩) (se_var (pv 0))) (so_some (se_var (pv 1))) (so_some (se_bin o_add (se_var (pv 2)) se_int))))
  (ss_one (st_ret (se_lst (sl_comp (own := [("game", 4)]) (b := (gN 4)) rfl sc_Runs_within.nd (si_seq (se_fld nmOk (by decide) rfl (fun c hc => by cases Nat.eq_of_beq_eq_true hc; exact ⟨t.own_Runs.cl, t.na_Runs_own_games⟩) (se_var (pv 0)))) (blkOk_by (own := [("game", 4)]) (N := N_Runs_within) (sc := defScope (inClass (top 22) 2)) (by decide +kernel)) (fun _ _ _ _ _ => (pg_name (i := 4) sc_Runs_within.nd rfl (Or.inl rfl))) (gok_name (vs := [4]) (by simp)) (fun _ _ _ _ _ => (sts_one (st_cmp (o_in (u65 hr)) (se_bin o_sub (se_ix (se_var (pv 4)) se_int) (se_ix (se_var (pv 4)) se_int)) (se_var (pv 3)) (by with_unfolding_all rfl)))) (fun _ _ _ _ _ => (se_var (pv 4))))))))
theorem ok_Runs_fewest (t : Txt P K mg) : FnOk P w K mg base (L2.CX P w) 1 (He.ma K (He.ga K "Runs") "fewest") (fdOf K (He.ma K (He.ga K "Runs") "fewest")) ["self"] (spEv ⟨K, (TT K).ca, (TT K).nm, (TT K).fld, (TT K).ex⟩ c_Runs_fewest) :=
  fn_ok (T := TT K) fin_ok t.F_Runs_fewest sc_Runs_fewest fun cdv A outer s H E hr => (ss_one (st_ret (se_if (st_cmp (o_eq hr.units) (se_it g_len t.z_len (by decide +kernel) (se_fld nmOk (by decide) rfl (fun c hc => by cases Nat.eq_of_beq_eq_true hc; exact ⟨t.own_Runs.cl, t.na_Runs_differences⟩) (se_var (pv 0)))) se_int (nomark _)) se_int (se_ix (se_fld nmOk (by decide) rfl (fun c hc => by cases Nat.eq_of_beq_eq_true hc; exact ⟨t.own_Runs.cl, t.na_Runs_behind⟩) (se_var (pv 0))) se_int))))
theorem ok_Runs_could_hold (t : Txt P K mg) : FnOk P w K mg base (L2.CX P w) 1 (He.ma K (He.ga K "Runs") "could_hold") (fdOf K (He.ma K (He.ga K "Runs") "could_hold")) ["self", "first", "last", "difference"] (spEv ⟨K, (TT K).ca, (TT K).nm, (TT K).fld, (TT K).ex⟩ c_Runs_could_hold) :=
  fn_ok (T := TT K) fin_ok t.F_Runs_could_hold sc_Runs_could_hold fun cdv A outer s H E hr => (ss_cons (st_if (st_bool (sw_and (st_cmp o_gt (se_var (pv 1)) se_int (nomark _)) (sw_one (st_cmp o_le (se_var (pv 3)) (se_ix (se_fld nmOk (by decide) rfl (fun c hc => by cases Nat.eq_of_beq_eq_true hc; exact ⟨t.own_Runs.cl, t.na_Runs_differences⟩) (se_var (pv 0))) (se_bin o_sub (se_var (pv 1)) se_int)) (nomark _))))) (ss_one (st_ret se_bl)) ss_nil)
  (ss_one (st_ret (se_or (se_cmp o_ge (se_bin o_add (se_var (pv 2)) se_int) (se_it g_len t.z_len (by decide +kernel) (se_fld nmOk (by decide) rfl (fun c hc => by cases Nat.eq_of_beq_eq_true hc; exact ⟨t.own_Runs.cl, t.na_Runs_differences⟩) (se_var (pv 0)))) (nomark _)) (se_one (se_cmp o_lt (se_var (pv 3)) (se_ix (se_fld nmOk (by decide) rfl (fun c hc => by cases Nat.eq_of_beq_eq_true hc; exact ⟨t.own_Runs.cl, t.na_Runs_differences⟩) (se_var (pv 0))) (se_bin o_add (se_var (pv 2)) se_int)) (nomark _)))))))
theorem ok_is_integer (t : Txt P K mg) : FnOk P w K mg base (L2.CX P w) 2 (He.ga K "is_integer") (fdOf K (He.ga K "is_integer")) ["value", "lowest", "highest"] (spEv ⟨K, (TT K).ca, (TT K).nm, (TT K).fld, (TT K).ex⟩ c_is_integer) :=
  fn_ok (T := TT K) fin_ok t.F_is_integer sc_is_integer fun cdv A outer s H E hr => (ss_one (st_ret (se_and (se_call (ok_is_whole t) (hr.mono (by decide)) rfl t.g_is_whole t.F_is_whole.kp (t.F_is_whole.binds fun _ _ _ _ _ _ us hl => match us, hl with | [_], _ => rfl) (takes_of rfl rfl rfl rfl) (sa_cons (se_var (pv 0)) sa_nil)) (se_one (se_chain2 o_le o_le (se_var (pv 1)) (se_var (pv 0)) (se_var (pv 2)))))))
theorem ok_ranges_of (t : Txt P K mg) : FnOk P w K mg base (L2.CX P w) 2 (He.ga K "ranges_of") (fdOf K (He.ga K "ranges_of")) ["low", "high", "games", "result"] (spEv ⟨K, (TT K).ca, (TT K).nm, (TT K).fld, (TT K).ex⟩ c_ranges_of) :=
  fn_ok (T := TT K) fin_ok t.F_ranges_of sc_ranges_of fun cdv A outer s H E hr => (ss_cons (st_par2 (i := 4) (j := 5) rfl sc_ranges_of.nd rfl rfl (by decide) rfl rfl (sa_cons (se_con t.con_OPEN) (sa_cons (se_con t.con_OPEN) sa_nil)) (by rfl))
  (ss_cons (st_for (passes_of rfl) rfl (si_seq (se_var (pv 2))) (pg_name (i := 6) sc_ranges_of.nd rfl (Or.inl rfl)) (gok_name (vs := [6]) (by simp)) (ss_one (st_if (st_cmp (o_eq hr.units) (se_ix (se_var (pv 6)) se_int) (se_var (pv 3)) (nomark _)) (ss_cons (st_set (i := 4) sc_ranges_of.nd rfl (Or.inl rfl) (se_call (ok_common t) (hr.mono (by decide)) rfl t.g_common t.F_common.kp (t.F_common.binds fun _ _ _ _ _ _ us hl => match us, hl with | [_, _], _ => rfl) (takes_of rfl rfl rfl rfl) (sa_cons (se_var (pv 4)) (sa_cons (se_call (ok_bounds_of t) (hr.mono (by decide)) rfl t.g_bounds_of t.F_bounds_of.kp (t.F_bounds_of.binds fun _ _ _ _ _ _ us hl => match us, hl with | [_, _, _, _], _ => rfl) (takes_of rfl rfl rfl rfl) (sa_cons (se_var (pv 0)) (sa_cons (se_var (pv 1)) (sa_cons (se_ix (se_var (pv 6)) se_int) (sa_cons (se_ix (se_var (pv 6)) se_int) sa_nil))))) sa_nil))))
  (ss_one (st_set (i := 5) sc_ranges_of.nd rfl (Or.inl rfl) (se_call (ok_common t) (hr.mono (by decide)) rfl t.g_common t.F_common.kp (t.F_common.binds fun _ _ _ _ _ _ us hl => match us, hl with | [_, _], _ => rfl) (takes_of rfl rfl rfl rfl) (sa_cons (se_var (pv 5)) (sa_cons (se_call (ok_bounds_of t) (hr.mono (by decide)) rfl t.g_bounds_of t.F_bounds_of.kp (t.F_bounds_of.binds fun _ _ _ _ _ _ us hl => match us, hl with | [_, _, _, _], _ => rfl) (takes_of rfl rfl rfl rfl) (sa_cons (se_var (pv 0)) (sa_cons (se_var (pv 1)) (sa_cons (se_ix (se_var (pv 6)) se_int) (sa_cons (se_ix (se_var (pv 6)) se_int) sa_nil))))) sa_nil)))))) ss_nil)))
  (ss_one (st_ret (se_tup (sa_cons (se_var (pv 4)) (sa_cons (se_var (pv 5)) sa_nil)))))))
theorem ok_check_bounds (t : Txt P K mg) : FnOk P w K mg base (L2.CX P w) 3 (He.ga K "check_bounds") (fdOf K (He.ga K "check_bounds")) ["low", "high"] (spEv ⟨K, (TT K).ca, (TT K).nm, (TT K).fld, (TT K).ex⟩ c_check_bounds) :=
  fn_ok (T := TT K) fin_ok t.F_check_bounds sc_check_bounds fun cdv A outer s H E hr => (ss_cons (st_if (st_not (st_val (se_call (ok_is_integer t) (hr.mono (by decide)) rfl t.g_is_integer t.F_is_integer.kp (t.F_is_integer.binds fun _ _ _ _ _ _ us hl => match us, hl with | [_, _, _], _ => rfl) (takes_of rfl rfl rfl rfl) (sa_cons (se_var (pv 0)) (sa_cons se_int (sa_cons (se_con t.con_MOST_RATING) sa_nil)))))) (ss_one (st_raise (c := 1) rfl t.er_BadNumber hr t.g_BadNumber (takes_of rfl rfl rfl rfl) (se_var (pv 0)))) ss_nil)
  (ss_one (st_if (st_not (st_val (se_call (ok_is_integer t) (hr.mono (by decide)) rfl t.g_is_integer t.F_is_integer.kp (t.F_is_integer.binds fun _ _ _ _ _ _ us hl => match us, hl with | [_, _, _], _ => rfl) (takes_of rfl rfl rfl rfl) (sa_cons (se_var (pv 1)) (sa_cons (se_var (pv 0)) (sa_cons (se_con t.con_MOST_RATING) sa_nil)))))) (ss_one (st_raise (c := 1) rfl t.er_BadNumber hr t.g_BadNumber (takes_of rfl rfl rfl rfl) (se_var (pv 1)))) ss_nil)))
theorem ok_is_told (t : Txt P K mg) : FnOk P w K mg base (L2.CX P w) 3 (He.ga K "is_told") (fdOf K (He.ga K "is_told")) ["low", "high", "value"] (spEv ⟨K, (TT K).ca, (TT K).nm, (TT K).fld, (TT K).ex⟩ c_is_told) :=
  fn_ok (T := TT K) fin_ok t.F_is_told sc_is_told fun cdv A outer s H E hr => (ss_cons (st_if (st_bool (sw_or (st_not (st_val (se_isi (b := .tuple) rfl t.z_isinstance (se_var (pv 2)) (ty_of t.z_tuple (by decide +kernel))))) (sw_or (st_cmp (o_ne hr.units) (se_it g_len t.z_len (by decide +kernel) (se_var (pv 2))) se_int (nomark _)) (sw_oneO (st_not (st_val (se_call (ok_is_result t) (hr.mono (by decide)) rfl t.g_is_result t.F_is_result.kp (t.F_is_result.binds fun _ _ _ _ _ _ us hl => match us, hl with | [_], _ => rfl) (takes_of rfl rfl rfl rfl) (sa_cons (se_ix (se_var (pv 2)) se_int) sa_nil)))))))) (ss_one (st_ret se_bl)) ss_nil)
  (ss_cons (st_set (i := 3) sc_is_told.nd rfl (Or.inl rfl) (se_lst (sl_lst (sa_cons (se_ix (se_var (pv 2)) se_int) (sa_cons (se_ix (se_var (pv 2)) se_int) (sa_cons (se_ix (se_var (pv 2)) se_int) (sa_cons (se_ix (se_var (pv 2)) se_int) sa_nil)))))))
  (ss_cons (st_if (st_bool (sw_or (st_not (st_val (se_ilL (g_all rfl) t.z_all (by decide +kernel) (sl_comp (own := [("rating", 4)]) (b := (gN 4)) rfl sc_is_told.nd (si_seq (se_var (pv 3))) (blkOk_by (own := [("rating", 4)]) (N := N_is_told) (sc := defScope (top 16)) (by decide +kernel)) (fun _ _ _ _ _ => (pg_name (i := 4) sc_is_told.nd rfl (Or.inl rfl))) (gok_name (vs := [4]) (by simp)) (fun _ _ _ _ _ => sts_nil) (fun _ _ _ _ _ => (se_call (ok_is_integer t) (hr.mono (by decide)) rfl t.g_is_integer t.F_is_integer.kp (t.F_is_integer.binds fun _ _ _ _ _ _ us hl => match us, hl with | [_, _, _], _ => rfl) takes0 (sa_cons (se_var (pv 4)) (sa_cons (se_var (pv 0)) (sa_cons (se_var (pv 1)) sa_nil))))))))) (sw_oneO (st_cmp o_gt (se_ix (se_var (pv 2)) se_int) (se_ix (se_var (pv 2)) se_int) (nomark _))))) (ss_one (st_ret se_bl)) ss_nil)
  (ss_one (st_ret (se_and (se_cmp o_le (se_cb g_abs t.z_abs (by decide +kernel) (sa_cons (se_bin o_sub (se_ix (se_var (pv 2)) se_int) (se_ix (se_var (pv 2)) se_int)) sa_nil)) (se_con t.con_MOST_CHANGE) (nomark _)) (se_one (se_cmp o_le (se_cb g_abs t.z_abs (by decide +kernel) (sa_cons (se_bin o_sub (se_ix (se_var (pv 2)) se_int) (se_ix (se_var (pv 2)) se_int)) sa_nil)) (se_con t.con_MOST_CHANGE) (nomark _)))))))))
theorem ok_fit_one_row (t : Txt P K mg) : FnOk P w K mg base (L2.CX P w) 3 (He.ga K "fit_one_row") (fdOf K (He.ga K "fit_one_row")) ["low", "high", "games"] (spEv ⟨K, (TT K).ca, (TT K).nm, (TT K).fld, (TT K).ex⟩ c_fit_one_row) :=
  fn_ok (T := TT K) fin_ok t.F_fit_one_row sc_fit_one_row fun cdv A outer s H E hr => (ss_cons (st_for (passes_of rfl) rfl (si_seq (se_con t.con_RESULTS)) (pg_name (i := 3) sc_fit_one_row.nd rfl (Or.inl rfl)) (gok_name (vs := [3]) (by simp)) (ss_cons (st_asg (pg_tup (n := 2) (t := gsNames [4, 5]) rfl (pgs_cons (pg_name (i := 4) sc_fit_one_row.nd rfl (Or.inl rfl)) (pgs_cons (pg_name (i := 5) sc_fit_one_row.nd rfl (Or.inl rfl)) pgs_nil))) (gok_tup (is := [4, 5]) (vs := [4, 5]) (by simp)) (se_call (ok_ranges_of t) (hr.mono (by decide)) rfl t.g_ranges_of t.F_ranges_of.kp (t.F_ranges_of.binds fun _ _ _ _ _ _ us hl => match us, hl with | [_, _, _, _], _ => rfl) (takes_of rfl rfl rfl rfl) (sa_cons (se_var (pv 0)) (sa_cons (se_var (pv 1)) (sa_cons (se_var (pv 2)) (sa_cons (se_var (pv 3)) sa_nil))))))
  (ss_one (st_if (st_bool (sw_or (st_cmp o_gt (se_ix (se_var (pv 4)) se_int) (se_ix (se_var (pv 4)) se_int) (nomark _)) (sw_oneO (st_cmp o_gt (se_ix (se_var (pv 5)) se_int) (se_ix (se_var (pv 5)) se_int) (nomark _))))) (ss_one (st_ret se_bl)) ss_nil))))
  (ss_one (st_ret se_bl)))
theorem ok_row_for (t : Txt P K mg) : FnOk P w K mg base (L2.CX P w) 3 (He.ga K "row_for") (fdOf K (He.ga K "row_for")) ["low", "high", "border", "games"] (spEv ⟨K, (TT K).ca, (TT K).nm, (TT K).fld, (TT K).ex⟩ c_row_for) :=
  fn_ok (T := TT K) fin_ok t.F_row_for sc_row_for fun cdv A outer s H E hr => (ss_cons (st_set (i := 4) sc_row_for.nd rfl (Or.inl rfl) (se_new (sl_lst sa_nil)))
  (ss_cons (st_for (passes_of rfl) rfl (si_seq (se_con t.con_RESULTS)) (pg_name (i := 5) sc_row_for.nd rfl (Or.inr rfl)) (gok_name (vs := [5]) (by simp)) (ss_cons (st_asg (pg_tup (n := 2) (t := gsNames [6, 7]) rfl (pgs_cons (pg_name (i := 6) sc_row_for.nd rfl (Or.inl rfl)) (pgs_cons (pg_name (i := 7) sc_row_for.nd rfl (Or.inl rfl)) pgs_nil))) (gok_tup (is := [6, 7]) (vs := [6, 7]) (by simp)) (se_call (ok_ranges_of t) (hr.mono (by decide)) rfl t.g_ranges_of t.F_ranges_of.kp (t.F_ranges_of.binds fun _ _ _ _ _ _ us hl => match us, hl with | [_, _, _, _], _ => rfl) (takes_of rfl rfl rfl rfl) (sa_cons (se_var (pv 0)) (sa_cons (se_var (pv 1)) (sa_cons (se_var (pv 3)) (sa_cons (se_var (pv 5)) sa_nil))))))
  (ss_cons (st_set (i := 8) sc_row_for.nd rfl (Or.inl rfl) (se_ilL (g_any rfl) t.z_any (by decide +kernel) (sl_comp (own := [("game", 9)]) (b := (gN 9)) rfl sc_row_for.nd (si_seq (se_var (pv 3))) (blkOk_by (own := [("game", 9)]) (N := N_row_for) (sc := defScope (top 24)) (by decide +kernel)) (fun _ _ _ _ _ => (pg_name (i := 9) sc_row_for.nd rfl (Or.inl rfl))) (gok_name (vs := [9]) (by simp)) (fun _ _ _ _ _ => sts_nil) (fun _ _ _ _ _ => (se_cmp (o_eq hr.units) (se_ix (se_var (pv 9)) se_int) (se_var (pv 5)) (nomark _))))))
  (ss_one (st_ex (se_app (se_var (pv 4)) (se_if (st_val (se_var (pv 8))) (se_tup (sa_cons (se_ix (se_var (pv 6)) se_int) (sa_cons (se_ix (se_var (pv 7)) se_int) sa_nil))) (se_tup (sa_cons se_int (sa_cons se_int sa_nil))))))))))
  (ss_one (st_ret (se_tup (sa_cons (se_var (pv 2)) (sa_star (se_var (pv 4)) sa_nil)))))))
theorem ok_is_full_entry (t : Txt P K mg) : FnOk P w K mg base (L2.CX P w) 3 (He.ga K "is_full_entry") (fdOf K (He.ga K "is_full_entry")) ["value"] (spEv ⟨K, (TT K).ca, (TT K).nm, (TT K).fld, (TT K).ex⟩ c_is_full_entry) :=
  fn_ok (T := TT K) fin_ok t.F_is_full_entry sc_is_full_entry fun cdv A outer s H E hr => (ss_one (st_ret (se_and (se_isi (b := .tuple) rfl t.z_isinstance (se_var (pv 0)) (ty_of t.z_tuple (by decide +kernel))) (se_and (se_cmp (o_eq hr.units) (se_it g_len t.z_len (by decide +kernel) (se_var (pv 0))) se_int (nomark _)) (se_one (se_ilL (g_all rfl) t.z_all (by decide +kernel) (sl_comp (own := [("change", 1)]) (b := (gN 1)) rfl sc_is_full_entry.nd (si_seq (se_var (pv 0))) (blkOk_by (own := [("change", 1)]) (N := N_is_full_entry) (sc := defScope (top 28)) (by decide +kernel)) (fun _ _ _ _ _ => (pg_name (i := 1) sc_is_full_entry.nd rfl (Or.inl rfl))) (gok_name (vs := [1]) (by simp)) (fun _ _ _ _ _ => sts_nil) (fun _ _ _ _ _ => (se_callSt (ok_is_integer t) (hr.mono (by decide)) rfl t.g_is_integer t.F_is_integer.kp (t.F_is_integer.binds fun _ _ _ _ _ _ us hl => match us, hl with | [_, _, _], _ => rfl) takes0 (sa_cons (se_var (pv 1)) (sa_star (se_con t.con_OPEN) sa_nil)))))))))))
theorem ok_check_told (t : Txt P K mg) : FnOk P w K mg base (L2.CX P w) 4 (He.ga K "check_told") (fdOf K (He.ga K "check_told")) ["low", "high", "games"] (spEv ⟨K, (TT K).ca, (TT K).nm, (TT K).fld, (TT K).ex⟩ c_check_told) :=
  fn_ok (T := TT K) fin_ok t.F_check_told sc_check_told fun cdv A outer s H E hr => (ss_cons (st_ex (se_call (ok_check_bounds t) (hr.mono (by decide)) rfl t.g_check_bounds t.F_check_bounds.kp (t.F_check_bounds.binds fun _ _ _ _ _ _ us hl => match us, hl with | [_, _], _ => rfl) (takes_of rfl rfl rfl rfl) (sa_cons (se_var (pv 0)) (sa_cons (se_var (pv 1)) sa_nil))))
  (ss_cons (st_if (st_not (st_val (se_isi2 (b := .list) (c := .tuple) rfl t.z_isinstance (se_var (pv 2)) (ty_of t.z_list (by decide +kernel)) (ty_of t.z_tuple (by decide +kernel))))) (ss_one (st_raise (c := 20) rfl t.er_BadTold hr t.g_BadTold (takes_of rfl rfl rfl rfl) se_non)) ss_nil)
  (ss_one (st_for (passes_of rfl) rfl (si_enumS rfl t.z_enumerate (se_var (pv 2))) (pg_tup (n := 2) (t := gsNames [3, 4]) rfl (pgs_cons (pg_name (i := 3) sc_check_told.nd rfl (Or.inl rfl)) (pgs_cons (pg_name (i := 4) sc_check_told.nd rfl (Or.inl rfl)) pgs_nil))) (gok_tup (is := [3, 4]) (vs := [3, 4]) (by simp)) (ss_one (st_if (st_not (st_val (se_call (ok_is_told t) (hr.mono (by decide)) rfl t.g_is_told t.F_is_told.kp (t.F_is_told.binds fun _ _ _ _ _ _ us hl => match us, hl with | [_, _, _], _ => rfl) (takes_of rfl rfl rfl rfl) (sa_cons (se_var (pv 0)) (sa_cons (se_var (pv 1)) (sa_cons (se_var (pv 4)) sa_nil)))))) (ss_one (st_raise (c := 20) rfl t.er_BadTold hr t.g_BadTold (takes_of rfl rfl rfl rfl) (se_var (pv 3)))) ss_nil))))))
theorem ok_is_full_table (t : Txt P K mg) : FnOk P w K mg base (L2.CX P w) 4 (He.ga K "is_full_table") (fdOf K (He.ga K "is_full_table")) ["value"] (spEv ⟨K, (TT K).ca, (TT K).nm, (TT K).fld, (TT K).ex⟩ c_is_full_table) :=
  fn_ok (T := TT K) fin_ok t.F_is_full_table sc_is_full_table fun cdv A outer s H E hr => (ss_cons (st_if (st_bool (sw_or (st_not (st_val (se_isi (b := .list) rfl t.z_isinstance (se_var (pv 0)) (ty_of t.z_list (by decide +kernel))))) (sw_oneO (st_cmp (o_eq hr.units) (se_var (pv 0)) (se_lst (sl_lst sa_nil)) (nomark _))))) (ss_one (st_ret se_bl)) ss_nil)
  (ss_cons (st_for (passes_of rfl) rfl (si_seq (se_var (pv 0))) (pg_name (i := 1) sc_is_full_table.nd rfl (Or.inl rfl)) (gok_name (vs := [1]) (by simp)) (ss_cons (st_if (st_bool (sw_or (st_not (st_val (se_isi (b := .tuple) rfl t.z_isinstance (se_var (pv 1)) (ty_of t.z_tuple (by decide +kernel))))) (sw_or (st_cmp (o_ne hr.units) (se_it g_len t.z_len (by decide +kernel) (se_var (pv 1))) se_int (nomark _)) (sw_or (st_not (st_val (se_call (ok_is_whole t) (hr.mono (by decide)) rfl t.g_is_whole t.F_is_whole.kp (t.F_is_whole.binds fun _ _ _ _ _ _ us hl => match us, hl with | [_], _ => rfl) (takes_of rfl rfl rfl rfl) (sa_cons (se_ix (se_var (pv 1)) se_int) sa_nil)))) (sw_oneO (st_cmp o_lt (se_ix (se_var (pv 1)) se_int) se_int (nomark _))))))) (ss_one (st_ret se_bl)) ss_nil)
  (ss_one (st_if (st_not (st_val (se_ilL (g_all rfl) t.z_all (by decide +kernel) (sl_comp (own := [("entry", 2)]) (b := (gN 2)) rfl sc_is_full_table.nd (si_seq (se_cutA (se_var (pv 1)) (so_some se_int) so_none)) (blkOk_by (own := [("entry", 2)]) (N := N_is_full_table) (sc := defScope (top 29)) (by decide +kernel)) (fun _ _ _ _ _ => (pg_name (i := 2) sc_is_full_table.nd rfl (Or.inl rfl))) (gok_name (vs := [2]) (by simp)) (fun _ _ _ _ _ => sts_nil) (fun _ _ _ _ _ => (se_call (ok_is_full_entry t) (hr.mono (by decide)) rfl t.g_is_full_entry t.F_is_full_entry.kp (t.F_is_full_entry.binds fun _ _ _ _ _ _ us hl => match us, hl with | [_], _ => rfl) takes0 (sa_cons (se_var (pv 2)) sa_nil))))))) (ss_one (st_ret se_bl)) ss_nil))))
  (ss_one (st_ret (se_and (se_cmp (o_eq hr.units) (se_ix (se_ix (se_var (pv 0)) se_int) se_int) se_int (nomark _)) (se_one (se_ilL (g_all rfl) t.z_all (by decide +kernel) (sl_comp (own := [("one", 3), ("other", 4)]) (b := (gT [3, 4])) rfl sc_is_full_table.nd (si_zip rfl t.z_zip (sa_cons (se_var (pv 0)) (sa_cons (se_cutA (se_var (pv 0)) (so_some se_int) so_none) sa_nil))) (blkOk_by (own := [("one", 3), ("other", 4)]) (N := N_is_full_table) (sc := defScope (top 29)) (by decide +kernel)) (fun _ _ _ _ _ => (pg_tup (n := 2) (t := gsNames [3, 4]) rfl (pgs_cons (pg_name (i := 3) sc_is_full_table.nd rfl (Or.inl rfl)) (pgs_cons (pg_name (i := 4) sc_is_full_table.nd rfl (Or.inl rfl)) pgs_nil)))) (gok_tup (is := [3, 4]) (vs := [3, 4]) (by simp)) (fun _ _ _ _ _ => sts_nil) (fun _ _ _ _ _ => (se_cmp o_lt (se_ix (se_var (pv 3)) se_int) (se_ix (se_var (pv 4)) se_int) (nomark _)))))))))))
theorem ok_Runs_fits (t : Txt P K mg) : FnOk P w K mg base (L2.CX P w) 4 (He.ma K (He.ga K "Runs") "fits") (fdOf K (He.ma K (He.ga K "Runs") "fits")) ["self", "first", "last"] (spEv ⟨K, (TT K).ca, (TT K).nm, (TT K).fld, (TT K).ex⟩ c_Runs_fits) :=
  fn_ok (T := TT K) fin_ok t.F_Runs_fits sc_Runs_fits fun cdv A outer s H E hr => (ss_one (st_ret (se_call (ok_fit_one_row t) (hr.mono (by decide)) rfl t.g_fit_one_row t.F_fit_one_row.kp (t.F_fit_one_row.binds fun _ _ _ _ _ _ us hl => match us, hl with | [_, _, _], _ => rfl) (takes_of rfl rfl rfl rfl) (sa_cons (se_fld nmOk (by decide) rfl (fun c hc => by cases Nat.eq_of_beq_eq_true hc; exact ⟨t.own_Runs.cl, t.na_Runs_low⟩) (se_var (pv 0))) (sa_cons (se_fld nmOk (by decide) rfl (fun c hc => by cases Nat.eq_of_beq_eq_true hc; exact ⟨t.own_Runs.cl, t.na_Runs_high⟩) (se_var (pv 0))) (sa_cons (se_meth (c := 45) (n := 33) nmOk (by decide) rfl t.own_Runs.cl t.me_Runs_within (ok_Runs_within t) (hr.mono (by decide)) (t.F_Runs_within.binds fun _ _ _ _ _ _ us hl => match us, hl with | [_, _, _], _ => rfl) (takes_of rfl rfl rfl rfl) (se_var (pv 0)) (sa_cons (se_var (pv 1)) (sa_cons (se_var (pv 2)) sa_nil))) sa_nil))))))
theorem ok_unlike_games (t : Txt P K mg) : FnOk P w K mg base (L2.CX P w) 5 (He.ga K "unlike_games") (fdOf K (He.ga K "unlike_games")) ["low", "high", "games"] (spEv ⟨K, (TT K).ca, (TT K).nm, (TT K).fld, (TT K).ex⟩ c_unlike_games) :=
  fn_ok (T := TT K) fin_ok t.F_unlike_games sc_unlike_games fun cdv A outer s H E hr => (ss_cons (st_ex (se_call (ok_check_told t) (hr.mono (by decide)) rfl t.g_check_told t.F_check_told.kp (t.F_check_told.binds fun _ _ _ _ _ _ us hl => match us, hl with | [_, _, _], _ => rfl) (takes_of rfl rfl rfl rfl) (sa_cons (se_var (pv 0)) (sa_cons (se_var (pv 1)) (sa_cons (se_var (pv 2)) sa_nil)))))
  (ss_cons (st_set (i := 3) sc_unlike_games.nd rfl (Or.inl rfl) (se_new (sl_lst sa_nil)))
  (ss_cons (st_for (passes_of rfl) rfl (si_enumS rfl t.z_enumerate (se_var (pv 2))) (pg_tup (n := 2) (t := gsNames [4, 5]) rfl (pgs_cons (pg_name (i := 4) sc_unlike_games.nd rfl (Or.inl rfl)) (pgs_cons (pg_name (i := 5) sc_unlike_games.nd rfl (Or.inl rfl)) pgs_nil))) (gok_tup (is := [4, 5]) (vs := [4, 5]) (by simp)) (ss_one (st_for (passes_of rfl) rfl (si_enumS rfl t.z_enumerate (se_cutA (se_var (pv 2)) so_none (so_some (se_var (pv 4))))) (pg_tup (n := 2) (t := gsNames [6, 7]) rfl (pgs_cons (pg_name (i := 6) sc_unlike_games.nd rfl (Or.inl rfl)) (pgs_cons (pg_name (i := 7) sc_unlike_games.nd rfl (Or.inl rfl)) pgs_nil))) (gok_tup (is := [6, 7]) (vs := [6, 7]) (by simp)) (ss_cons (st_set (i := 8) sc_unlike_games.nd rfl (Or.inl rfl) (se_and (se_cmp (o_eq hr.units) (se_bin o_sub (se_ix (se_var (pv 7)) se_int) (se_ix (se_var (pv 7)) se_int)) (se_bin o_sub (se_ix (se_var (pv 5)) se_int) (se_ix (se_var (pv 5)) se_int)) (nomark _)) (se_one (se_cmp (o_eq hr.units) (se_ix (se_var (pv 7)) se_int) (se_ix (se_var (pv 5)) se_int) (nomark _)))))
  (ss_one (st_if (st_bool (sw_and (st_val (se_var (pv 8))) (sw_one (st_not (st_val (se_call (ok_fit_one_row t) (hr.mono (by decide)) rfl t.g_fit_one_row t.F_fit_one_row.kp (t.F_fit_one_row.binds fun _ _ _ _ _ _ us hl => match us, hl with | [_, _, _], _ => rfl) (takes_of rfl rfl rfl rfl) (sa_cons (se_var (pv 0)) (sa_cons (se_var (pv 1)) (sa_cons (se_lst (sl_lst (sa_cons (se_var (pv 7)) (sa_cons (se_var (pv 5)) sa_nil)))) sa_nil))))))))) (ss_one (st_ex (se_app (se_var (pv 3)) (se_tup (sa_cons (se_var (pv 6)) (sa_cons (se_var (pv 4)) sa_nil)))))) ss_nil))))))
  (ss_one (st_ret (se_call (ok_sorted_pairs t) (hr.mono (by decide)) rfl t.g_sorted_pairs t.F_sorted_pairs.kp (t.F_sorted_pairs.binds fun _ _ _ _ _ _ us hl => match us, hl with | [_], _ => rfl) (takes_of rfl rfl rfl rfl) (sa_cons (se_var (pv 3)) sa_nil)))))))
theorem ok_explains (t : Txt P K mg) : FnOk P w K mg base (L2.CX P w) 5 (He.ga K "explains") (fdOf K (He.ga K "explains")) ["low", "high", "games", "table"] (spEv ⟨K, (TT K).ca, (TT K).nm, (TT K).fld, (TT K).ex⟩ c_explains) :=
  fn_ok (T := TT K) fin_ok t.F_explains sc_explains fun cdv A outer s H E hr => (ss_cons (st_ex (se_call (ok_check_told t) (hr.mono (by decide)) rfl t.g_check_told t.F_check_told.kp (t.F_check_told.binds fun _ _ _ _ _ _ us hl => match us, hl with | [_, _, _], _ => rfl) (takes_of rfl rfl rfl rfl) (sa_cons (se_var (pv 0)) (sa_cons (se_var (pv 1)) (sa_cons (se_var (pv 2)) sa_nil)))))
  (ss_cons (st_if (st_not (st_val (se_call (ok_is_full_table t) (hr.mono (by decide)) rfl t.g_is_full_table t.F_is_full_table.kp (t.F_is_full_table.binds fun _ _ _ _ _ _ us hl => match us, hl with | [_], _ => rfl) (takes_of rfl rfl rfl rfl) (sa_cons (se_var (pv 3)) sa_nil)))) (ss_one (st_ret se_bl)) ss_nil)
  (ss_cons (st_for (passes_of rfl) rfl (si_seq (se_var (pv 2))) (pg_tup (n := 5) (t := gsNames [4, 5, 6, 7, 8]) rfl (pgs_cons (pg_name (i := 4) sc_explains.nd rfl (Or.inr rfl)) (pgs_cons (pg_name (i := 5) sc_explains.nd rfl (Or.inr rfl)) (pgs_cons (pg_name (i := 6) sc_explains.nd rfl (Or.inl rfl)) (pgs_cons (pg_name (i := 7) sc_explains.nd rfl (Or.inl rfl)) (pgs_cons (pg_name (i := 8) sc_explains.nd rfl (Or.inl rfl)) pgs_nil)))))) (gok_tup (is := [4, 5, 6, 7, 8]) (vs := [4, 5, 6, 7, 8]) (by simp)) (ss_cons (st_set (i := 9) sc_explains.nd rfl (Or.inl rfl) (se_ix (se_lst (sl_comp (own := [("row", 9)]) (b := (gN 9)) rfl sc_explains.nd (si_seq (se_var (pv 3))) (blkOk_by (own := [("row", 9)]) (N := N_explains) (sc := defScope (top 31)) (by decide +kernel)) (fun _ _ _ _ _ => (pg_name (i := 9) sc_explains.nd rfl (Or.inl rfl))) (gok_name (vs := [9]) (by simp)) (fun _ _ _ _ _ => (sts_one (st_cmp o_le (se_ix (se_var (pv 9)) se_int) (se_bin o_sub (se_var (pv 4)) (se_var (pv 5))) (nomark _)))) (fun _ _ _ _ _ => (se_var (pv 9))))) (se_un o_neg se_int)))
  (ss_cons (st_set (i := 10) sc_explains.nd rfl (Or.inl rfl) (se_ix (se_var (pv 9)) (se_bin o_add se_int (se_idxC (ys := ["upper", "draw", "lower"]) t.con_RESULTS t.td_RESULTS (se_var (pv 6))))))
  (ss_one (st_if (st_cmp (o_ne hr.units) (se_tup (sa_cons (se_call (ok_cut t) (hr.mono (by decide)) rfl t.g_cut t.F_cut.kp (t.F_cut.binds fun _ _ _ _ _ _ us hl => match us, hl with | [_, _, _], _ => rfl) (takes_of rfl rfl rfl rfl) (sa_cons (se_var (pv 0)) (sa_cons (se_var (pv 1)) (sa_cons (se_bin o_add (se_var (pv 4)) (se_ix (se_var (pv 10)) se_int)) sa_nil)))) (sa_cons (se_call (ok_cut t) (hr.mono (by decide)) rfl t.g_cut t.F_cut.kp (t.F_cut.binds fun _ _ _ _ _ _ us hl => match us, hl with | [_, _, _], _ => rfl) (takes_of rfl rfl rfl rfl) (sa_cons (se_var (pv 0)) (sa_cons (se_var (pv 1)) (sa_cons (se_bin o_add (se_var (pv 5)) (se_ix (se_var (pv 10)) se_int)) sa_nil)))) sa_nil))) (se_tup (sa_cons (se_var (pv 7)) (sa_cons (se_var (pv 8)) sa_nil))) (nomark _)) (ss_one (st_ret se_bl)) ss_nil)))))
  (ss_one (st_ret se_bl)))))
theorem ok_Runs_firsts (t : Txt P K mg) : FnOk P w K mg base (L2.CX P w) 5 (He.ma K (He.ga K "Runs") "firsts") (fdOf K (He.ma K (He.ga K "Runs") "firsts")) ["self", "end"] (spEv ⟨K, (TT K).ca, (TT K).nm, (TT K).fld, (TT K).ex⟩ c_Runs_firsts) :=
  fn_ok (T := TT K) fin_ok t.F_Runs_firsts sc_Runs_firsts fun cdv A outer s H E hr => (ss_one (st_ret (se_lst (sl_comp (own := [("first", 2)]) (b := (gN 2)) rfl sc_Runs_firsts.nd (si_range1 rfl t.z_range (sa_cons (se_var (pv 1)) sa_nil)) (blkOk_by (own := [("first", 2)]) (N := N_Runs_firsts) (sc := defScope (inClass (top 22) 4)) (by decide +kernel)) (fun _ _ _ _ _ => (pg_name (i := 2) sc_Runs_firsts.nd rfl (Or.inl rfl))) (gok_name (vs := [2]) (by simp)) (fun _ _ _ _ _ => (sts_one (st_val (se_meth (c := 45) (n := 32) nmOk (by decide) rfl t.own_Runs.cl t.me_Runs_fits (ok_Runs_fits t) (hr.mono (by decide)) (t.F_Runs_fits.binds fun _ _ _ _ _ _ us hl => match us, hl with | [_, _, _], _ => rfl) takes0 (se_var (pv 0)) (sa_cons (se_var (pv 2)) (sa_cons (se_bin o_sub (se_var (pv 1)) se_int) sa_nil)))))) (fun _ _ _ _ _ => (se_var (pv 2)))))))
theorem ok_Runs_lasts (t : Txt P K mg) : FnOk P w K mg base (L2.CX P w) 5 (He.ma K (He.ga K "Runs") "lasts") (fdOf K (He.ma K (He.ga K "Runs") "lasts")) ["self", "first"] (spEv ⟨K, (TT K).ca, (TT K).nm, (TT K).fld, (TT K).ex⟩ c_Runs_lasts) :=
  fn_ok (T := TT K) fin_ok t.F_Runs_lasts sc_Runs_lasts fun cdv A outer s H E hr => (ss_one (st_ret (se_lst (sl_comp (own := [("last", 2)]) (b := (gN 2)) rfl sc_Runs_lasts.nd (si_range2 rfl t.z_range (sa_cons (se_var (pv 1)) (sa_cons (se_it g_len t.z_len (by decide +kernel) (se_fld nmOk (by decide) rfl (fun c hc => by cases Nat.eq_of_beq_eq_true hc; exact ⟨t.own_Runs.cl, t.na_Runs_differences⟩) (se_var (pv 0)))) sa_nil))) (blkOk_by (own := [("last", 2)]) (N := N_Runs_lasts) (sc := defScope (inClass (top 22) 5)) (by decide +kernel)) (fun _ _ _ _ _ => (pg_name (i := 2) sc_Runs_lasts.nd rfl (Or.inl rfl))) (gok_name (vs := [2]) (by simp)) (fun _ _ _ _ _ => (sts_one (st_val (se_meth (c := 45) (n := 32) nmOk (by decide) rfl t.own_Runs.cl t.me_Runs_fits (ok_Runs_fits t) (hr.mono (by decide)) (t.F_Runs_fits.binds fun _ _ _ _ _ _ us hl => match us, hl with | [_, _, _], _ => rfl) takes0 (se_var (pv 0)) (sa_cons (se_var (pv 1)) (sa_cons (se_var (pv 2)) sa_nil)))))) (fun _ _ _ _ _ => (se_var (pv 2)))))))
theorem ok_Runs_is_row_of_fewest (t : Txt P K mg) : FnOk P w K mg base (L2.CX P w) 5 (He.ma K (He.ga K "Runs") "is_row_of_fewest") (fdOf K (He.ma K (He.ga K "Runs") "is_row_of_fewest")) ["self", "first", "last"] (spEv ⟨K, (TT K).ca, (TT K).nm, (TT K).fld, (TT K).ex⟩ c_Runs_is_row_of_fewest) :=
  fn_ok (T := TT K) fin_ok t.F_Runs_is_row_of_fewest sc_Runs_is_row_of_fewest fun cdv A outer s H E hr => (ss_cons (st_par2 (i := 3) (j := 4) rfl sc_Runs_is_row_of_fewest.nd rfl rfl (by decide) rfl rfl (sa_cons (se_ix (se_fld nmOk (by decide) rfl (fun c hc => by cases Nat.eq_of_beq_eq_true hc; exact ⟨t.own_Runs.cl, t.na_Runs_ahead⟩) (se_var (pv 0))) (se_var (pv 1))) (sa_cons (se_ix (se_fld nmOk (by decide) rfl (fun c hc => by cases Nat.eq_of_beq_eq_true hc; exact ⟨t.own_Runs.cl, t.na_Runs_behind⟩) (se_var (pv 0))) (se_bin o_add (se_var (pv 2)) se_int)) sa_nil)) (by rfl))
  (ss_cons (st_if (st_bool (sw_or (st_cmp o_is (se_var (pv 3)) se_non (nomark _)) (sw_or (st_cmp o_is (se_var (pv 4)) se_non (nomark _)) (sw_oneO (st_not (st_val (se_meth (c := 45) (n := 32) nmOk (by decide) rfl t.own_Runs.cl t.me_Runs_fits (ok_Runs_fits t) (hr.mono (by decide)) (t.F_Runs_fits.binds fun _ _ _ _ _ _ us hl => match us, hl with | [_, _, _], _ => rfl) (takes_of rfl rfl rfl rfl) (se_var (pv 0)) (sa_cons (se_var (pv 1)) (sa_cons (se_var (pv 2)) sa_nil))))))))) (ss_one (st_ret se_bl)) ss_nil)
  (ss_one (st_ret (se_cmp (o_eq hr.units) (se_bin o_add (se_bin o_add (se_var (pv 3)) se_int) (se_var (pv 4))) (se_meth0 (c := 45) (n := 24) nmOk (by decide) rfl t.own_Runs.cl t.me_Runs_fewest (ok_Runs_fewest t) (hr.mono (by decide)) (t.F_Runs_fewest.binds fun _ _ _ _ _ _ us hl => match us, hl with | [_], _ => rfl) (takes_of rfl rfl rfl rfl) (se_var (pv 0))) (nomark _))))))
theorem ok_rows_for (t : Txt P K mg) : FnOk P w K mg base (L2.CX P w) 6 (He.ga K "rows_for") (fdOf K (He.ga K "rows_for")) ["runs", "difference", "result"] (spEv ⟨K, (TT K).ca, (TT K).nm, (TT K).fld, (TT K).ex⟩ c_rows_for) :=
  fn_ok (T := TT K) fin_ok t.F_rows_for sc_rows_for fun cdv A outer s H E hr => (ss_cons (st_set (i := 3) sc_rows_for.nd rfl (Or.inl rfl) (se_it g_len t.z_len (by decide +kernel) (se_fld nmOk (by decide) rfl (fun c hc => by cases Nat.eq_of_beq_eq_true hc; exact ⟨t.own_Runs.cl, t.na_Runs_differences⟩) (se_var (pv 0)))))
  (ss_cons (st_if (st_cmp (o_eq hr.units) (se_var (pv 3)) se_int (nomark _)) (ss_one (st_ret (se_lst (sl_lst (sa_cons (se_tup (sa_cons (se_con t.con_OPEN) (sa_cons (se_con t.con_OPEN) sa_nil))) sa_nil))))) ss_nil)
  (ss_cons (st_set (i := 4) sc_rows_for.nd rfl (Or.inl rfl) (se_new (sl_lst sa_nil)))
  (ss_cons (st_for (passes_of rfl) rfl (si_range1 rfl t.z_range (sa_cons (se_var (pv 3)) sa_nil)) (pg_name (i := 5) sc_rows_for.nd rfl (Or.inl rfl)) (gok_name (vs := [5]) (by simp)) (ss_one (st_for (passes_of rfl) rfl (si_range2 rfl t.z_range (sa_cons (se_var (pv 5)) (sa_cons (se_var (pv 3)) sa_nil))) (pg_name (i := 6) sc_rows_for.nd rfl (Or.inl rfl)) (gok_name (vs := [6]) (by simp)) (ss_one (st_if (st_bool (sw_and (st_val (se_meth (c := 45) (n := 35) nmOk (by decide) rfl t.own_Runs.cl t.me_Runs_could_hold (ok_Runs_could_hold t) (hr.mono (by decide)) (t.F_Runs_could_hold.binds fun _ _ _ _ _ _ us hl => match us, hl with | [_, _, _, _], _ => rfl) (takes_of rfl rfl rfl rfl) (se_var (pv 0)) (sa_cons (se_var (pv 5)) (sa_cons (se_var (pv 6)) (sa_cons (se_var (pv 1)) sa_nil))))) (sw_one (st_val (se_meth (c := 45) (n := 34) nmOk (by decide) rfl t.own_Runs.cl t.me_Runs_is_row_of_fewest (ok_Runs_is_row_of_fewest t) (hr.mono (by decide)) (t.F_Runs_is_row_of_fewest.binds fun _ _ _ _ _ _ us hl => match us, hl with | [_, _, _], _ => rfl) (takes_of rfl rfl rfl rfl) (se_var (pv 0)) (sa_cons (se_var (pv 5)) (sa_cons (se_var (pv 6)) sa_nil))))))) (ss_one (st_ex (se_app (se_var (pv 4)) (se_call (ok_ranges_of t) (hr.mono (by decide)) rfl t.g_ranges_of t.F_ranges_of.kp (t.F_ranges_of.binds fun _ _ _ _ _ _ us hl => match us, hl with | [_, _, _, _], _ => rfl) (takes_of rfl rfl rfl rfl) (sa_cons (se_fld nmOk (by decide) rfl (fun c hc => by cases Nat.eq_of_beq_eq_true hc; exact ⟨t.own_Runs.cl, t.na_Runs_low⟩) (se_var (pv 0))) (sa_cons (se_fld nmOk (by decide) rfl (fun c hc => by cases Nat.eq_of_beq_eq_true hc; exact ⟨t.own_Runs.cl, t.na_Runs_high⟩) (se_var (pv 0))) (sa_cons (se_meth (c := 45) (n := 33) nmOk (by decide) rfl t.own_Runs.cl t.me_Runs_within (ok_Runs_within t) (hr.mono (by decide)) (t.F_Runs_within.binds fun _ _ _ _ _ _ us hl => match us, hl with | [_, _, _], _ => rfl) (takes_of rfl rfl rfl rfl) (se_var (pv 0)) (sa_cons (se_var (pv 5)) (sa_cons (se_var (pv 6)) sa_nil))) (sa_cons (se_var (pv 2)) sa_nil)))))))) ss_nil)))))
  (ss_one (st_ret (se_var (pv 4))))))))
theorem ok_Runs___init__ (t : Txt P K mg) : FnOk P w K mg base (L2.CX P w) 6 (He.ma K (He.ga K "Runs") "__init__") (fdOf K (He.ma K (He.ga K "Runs") "__init__")) ["self", "low", "high", "games"] (spEv ⟨K, (TT K).ca, (TT K).nm, (TT K).fld, (TT K).ex⟩ c_Runs___init__) :=
  fn_ok (T := TT K) fin_ok t.F_Runs___init__ sc_Runs___init__ fun cdv A outer s H E hr => (ss_cons (st_fld nmOk (by decide) rfl (fun c hc => by cases Nat.eq_of_beq_eq_true hc; exact ⟨t.own_Runs.cl, t.na_Runs_low⟩) (se_var (pv 0)) (se_var (pv 1)))
  (ss_cons (st_fld nmOk (by decide) rfl (fun c hc => by cases Nat.eq_of_beq_eq_true hc; exact ⟨t.own_Runs.cl, t.na_Runs_high⟩) (se_var (pv 0)) (se_var (pv 2)))
  (ss_cons (st_fld nmOk (by decide) rfl (fun c hc => by cases Nat.eq_of_beq_eq_true hc; exact ⟨t.own_Runs.cl, t.na_Runs_own_games⟩) (se_var (pv 0)) (se_tit g_tuple t.z_tuple (by decide +kernel) (se_var (pv 3))))
  (ss_cons (st_fld nmOk (by decide) rfl (fun c hc => by cases Nat.eq_of_beq_eq_true hc; exact ⟨t.own_Runs.cl, t.na_Runs_differences⟩) (se_var (pv 0)) (se_lst (sl_sortSet (own := [("game", 7)]) (b := (gN 7)) rfl sc_Runs___init__.nd t.z_sorted (si_seq (se_var (pv 3))) (blkOk_by (own := [("game", 7)]) (N := N_Runs___init__) (sc := defScope (inClass (top 22) 0)) (by decide +kernel)) (fun _ _ _ _ _ => (pg_name (i := 7) sc_Runs___init__.nd rfl (Or.inl rfl))) (gok_name (vs := [7]) (by simp)) (fun _ _ _ _ _ => sts_nil) (fun _ _ _ _ _ => (se_ct g_int t.z_int (by decide +kernel) (sa_cons (se_bin o_sub (se_ix (se_var (pv 7)) se_int) (se_ix (se_var (pv 7)) se_int)) sa_nil))))))
  (ss_cons (st_set (i := 4) sc_Runs___init__.nd rfl (Or.inl rfl) (se_it g_len t.z_len (by decide +kernel) (se_fld nmOk (by decide) rfl (fun c hc => by cases Nat.eq_of_beq_eq_true hc; exact ⟨t.own_Runs.cl, t.na_Runs_differences⟩) (se_var (pv 0)))))
  (ss_cons (st_fld nmOk (by decide) rfl (fun c hc => by cases Nat.eq_of_beq_eq_true hc; exact ⟨t.own_Runs.cl, t.na_Runs_ahead⟩) (se_var (pv 0)) (se_new (sl_lst (sa_cons se_int sa_nil))))
  (ss_cons (st_for (passes_of rfl) rfl (si_range2 rfl t.z_range (sa_cons se_int (sa_cons (se_bin o_add (se_var (pv 4)) se_int) sa_nil))) (pg_name (i := 5) sc_Runs___init__.nd rfl (Or.inl rfl)) (gok_name (vs := [5]) (by simp)) (ss_one (st_ex (se_app (se_fld nmOk (by decide) rfl (fun c hc => by cases Nat.eq_of_beq_eq_true hc; exact ⟨t.own_Runs.cl, t.na_Runs_ahead⟩) (se_var (pv 0))) (se_meth (c := 45) (n := 29) nmOk (by decide) rfl t.own_Runs.cl t.me_Runs_least (ok_Runs_least t) (hr.mono (by decide)) (t.F_Runs_least.binds fun _ _ _ _ _ _ us hl => match us, hl with | [_, _], _ => rfl) (takes_of rfl rfl rfl rfl) (se_var (pv 0)) (sa_cons (se_lst (sl_comp (own := [("first", 6)]) (b := (gN 6)) rfl sc_Runs___init__.nd (si_seq (se_meth (c := 45) (n := 30) nmOk (by decide) rfl t.own_Runs.cl t.me_Runs_firsts (ok_Runs_firsts t) (hr.mono (by decide)) (t.F_Runs_firsts.binds fun _ _ _ _ _ _ us hl => match us, hl with | [_, _], _ => rfl) (takes_of rfl rfl rfl rfl) (se_var (pv 0)) (sa_cons (se_var (pv 5)) sa_nil))) (blkOk_by (own := [("first", 6)]) (N := N_Runs___init__) (sc := defScope (inClass (top 22) 0)) (by decide +kernel)) (fun _ _ _ _ _ => (pg_name (i := 6) sc_Runs___init__.nd rfl (Or.inl rfl))) (gok_name (vs := [6]) (by simp)) (fun _ _ _ _ _ => sts_nil) (fun _ _ _ _ _ => (se_ix (se_fld nmOk (by decide) rfl (fun c hc => by cases Nat.eq_of_beq_eq_true hc; exact ⟨t.own_Runs.cl, t.na_Runs_ahead⟩) (se_var (pv 0))) (se_var (pv 6)))))) sa_nil))))))
  (ss_cons (st_fld nmOk (by decide) rfl (fun c hc => by cases Nat.eq_of_beq_eq_true hc; exact ⟨t.own_Runs.cl, t.na_Runs_behind⟩) (se_var (pv 0)) (se_new (sl_mul (se_lst (sl_lst (sa_cons se_int sa_nil))) (se_bin o_add (se_var (pv 4)) se_int))))
  (ss_one (st_for (passes_of rfl) rfl (si_range3 rfl t.z_range (sa_cons (se_bin o_sub (se_var (pv 4)) se_int) (sa_cons (se_un o_neg se_int) (sa_cons (se_un o_neg se_int) sa_nil)))) (pg_name (i := 6) sc_Runs___init__.nd rfl (Or.inl rfl)) (gok_name (vs := [6]) (by simp)) (ss_one (st_setIx (se_meth (c := 45) (n := 29) nmOk (by decide) rfl t.own_Runs.cl t.me_Runs_least (ok_Runs_least t) (hr.mono (by decide)) (t.F_Runs_least.binds fun _ _ _ _ _ _ us hl => match us, hl with | [_, _], _ => rfl) (takes_of rfl rfl rfl rfl) (se_var (pv 0)) (sa_cons (se_lst (sl_comp (own := [("last", 8)]) (b := (gN 8)) rfl sc_Runs___init__.nd (si_seq (se_meth (c := 45) (n := 31) nmOk (by decide) rfl t.own_Runs.cl t.me_Runs_lasts (ok_Runs_lasts t) (hr.mono (by decide)) (t.F_Runs_lasts.binds fun _ _ _ _ _ _ us hl => match us, hl with | [_, _], _ => rfl) (takes_of rfl rfl rfl rfl) (se_var (pv 0)) (sa_cons (se_var (pv 6)) sa_nil))) (blkOk_by (own := [("last", 8)]) (N := N_Runs___init__) (sc := defScope (inClass (top 22) 0)) (by decide +kernel)) (fun _ _ _ _ _ => (pg_name (i := 8) sc_Runs___init__.nd rfl (Or.inl rfl))) (gok_name (vs := [8]) (by simp)) (fun _ _ _ _ _ => sts_nil) (fun _ _ _ _ _ => (se_ix (se_fld nmOk (by decide) rfl (fun c hc => by cases Nat.eq_of_beq_eq_true hc; exact ⟨t.own_Runs.cl, t.na_Runs_behind⟩) (se_var (pv 0))) (se_bin o_add (se_var (pv 8)) se_int))))) sa_nil)) (se_fld nmOk (by decide) rfl (fun c hc => by cases Nat.eq_of_beq_eq_true hc; exact ⟨t.own_Runs.cl, t.na_Runs_behind⟩) (se_var (pv 0))) (se_var (pv 6))))))))))))))
theorem ok_fewest_rows (t : Txt P K mg) : FnOk P w K mg base (L2.CX P w) 8 (He.ga K "fewest_rows") (fdOf K (He.ga K "fewest_rows")) ["low", "high", "games"] (spEv ⟨K, (TT K).ca, (TT K).nm, (TT K).fld, (TT K).ex⟩ c_fewest_rows) :=
  fn_ok (T := TT K) fin_ok t.F_fewest_rows sc_fewest_rows fun cdv A outer s H E hr => (ss_cons (st_ex (se_call (ok_check_told t) (hr.mono (by decide)) rfl t.g_check_told t.F_check_told.kp (t.F_check_told.binds fun _ _ _ _ _ _ us hl => match us, hl with | [_, _, _], _ => rfl) (takes_of rfl rfl rfl rfl) (sa_cons (se_var (pv 0)) (sa_cons (se_var (pv 1)) (sa_cons (se_var (pv 2)) sa_nil)))))
  (ss_one (st_ret (se_meth0 (c := 45) (n := 24) nmOk (by decide) rfl t.own_Runs.cl t.me_Runs_fewest (ok_Runs_fewest t) (hr.mono (by decide)) (t.F_Runs_fewest.binds fun _ _ _ _ _ _ us hl => match us, hl with | [_], _ => rfl) (takes_of rfl rfl rfl rfl) (se_make (c := 45) fin_ok t.g_Runs t.mk_Runs (ok_Runs___init__ t) (hr.mono (by decide)) (t.F_Runs___init__.binds fun _ _ _ _ _ _ us hl => match us, hl with | [_, _, _, _], _ => rfl) (takes_of rfl rfl rfl rfl) (sa_cons (se_var (pv 0)) (sa_cons (se_var (pv 1)) (sa_cons (se_var (pv 2)) sa_nil))))))))
theorem ok_told_table (t : Txt P K mg) : FnOk P w K mg base (L2.CX P w) 8 (He.ga K "told_table") (fdOf K (He.ga K "told_table")) ["low", "high", "games"] (spEv ⟨K, (TT K).ca, (TT K).nm, (TT K).fld, (TT K).ex⟩ c_told_table) :=
  fn_ok (T := TT K) fin_ok t.F_told_table sc_told_table fun cdv A outer s H E hr => (ss_cons (st_ex (se_call (ok_check_told t) (hr.mono (by decide)) rfl t.g_check_told t.F_check_told.kp (t.F_check_told.binds fun _ _ _ _ _ _ us hl => match us, hl with | [_, _, _], _ => rfl) (takes_of rfl rfl rfl rfl) (sa_cons (se_var (pv 0)) (sa_cons (se_var (pv 1)) (sa_cons (se_var (pv 2)) sa_nil)))))
  (ss_cons (st_set (i := 3) sc_told_table.nd rfl (Or.inr rfl) (se_make (c := 45) fin_ok t.g_Runs t.mk_Runs (ok_Runs___init__ t) (hr.mono (by decide)) (t.F_Runs___init__.binds fun _ _ _ _ _ _ us hl => match us, hl with | [_, _, _, _], _ => rfl) (takes_of rfl rfl rfl rfl) (sa_cons (se_var (pv 0)) (sa_cons (se_var (pv 1)) (sa_cons (se_var (pv 2)) sa_nil)))))
  (ss_cons (st_if (st_cmp o_is (se_meth0 (c := 45) (n := 24) nmOk (by decide) rfl t.own_Runs.cl t.me_Runs_fewest (ok_Runs_fewest t) (hr.mono (by decide)) (t.F_Runs_fewest.binds fun _ _ _ _ _ _ us hl => match us, hl with | [_], _ => rfl) (takes_of rfl rfl rfl rfl) (se_var (pv 3))) se_non (nomark _)) (ss_one (st_ret se_non)) ss_nil)
  (ss_cons (st_if (st_cmp (o_eq hr.units) (se_it g_len t.z_len (by decide +kernel) (se_fld nmOk (by decide) rfl (fun c hc => by cases Nat.eq_of_beq_eq_true hc; exact ⟨t.own_Runs.cl, t.na_Runs_differences⟩) (se_var (pv 3)))) se_int (nomark _)) (ss_one (st_ret (se_lst (sl_lst (sa_cons (se_call (ok_row_for t) (hr.mono (by decide)) rfl t.g_row_for t.F_row_for.kp (t.F_row_for.binds fun _ _ _ _ _ _ us hl => match us, hl with | [_, _, _, _], _ => rfl) (takes_of rfl rfl rfl rfl) (sa_cons (se_var (pv 0)) (sa_cons (se_var (pv 1)) (sa_cons se_int (sa_cons (se_lst (sl_lst sa_nil)) sa_nil))))) sa_nil))))) ss_nil)
  (ss_cons (st_asg (pg_tup (n := 2) (t := gsNames [4, 5]) rfl (pgs_cons (pg_name (i := 4) sc_told_table.nd rfl (Or.inl rfl)) (pgs_cons (pg_name (i := 5) sc_told_table.nd rfl (Or.inr rfl)) pgs_nil))) (gok_tup (is := [4, 5]) (vs := [4, 5]) (by simp)) (se_tup (sa_cons (se_new (sl_lst sa_nil)) (sa_cons se_int sa_nil))))
  (ss_cons (st_while 5000 (passes_of rfl) (st_cmp o_lt (se_var (pv 5)) (se_it g_len t.z_len (by decide +kernel) (se_fld nmOk (by decide) rfl (fun c hc => by cases Nat.eq_of_beq_eq_true hc; exact ⟨t.own_Runs.cl, t.na_Runs_differences⟩) (se_var (pv 3)))) (nomark _)) (ss_cons (st_set (i := 6) sc_told_table.nd rfl (Or.inl rfl) (se_ix (se_lst (sl_comp (own := [("at", 8)]) (b := (gN 8)) rfl sc_told_table.nd (si_seq (se_meth (c := 45) (n := 31) nmOk (by decide) rfl t.own_Runs.cl t.me_Runs_lasts (ok_Runs_lasts t) (hr.mono (by decide)) (t.F_Runs_lasts.binds fun _ _ _ _ _ _ us hl => match us, hl with | [_, _], _ => rfl) (takes_of rfl rfl rfl rfl) (se_var (pv 3)) (sa_cons (se_var (pv 5)) sa_nil))) (blkOk_by (own := [("at", 8)]) (N := N_told_table) (sc := defScope (top 25)) (by decide +kernel)) (fun _ _ _ _ _ => (pg_name (i := 8) sc_told_table.nd rfl (Or.inl rfl))) (gok_name (vs := [8]) (by simp)) (fun _ _ _ _ _ => (sts_one (st_val (se_meth (c := 45) (n := 34) nmOk (by decide) rfl t.own_Runs.cl t.me_Runs_is_row_of_fewest (ok_Runs_is_row_of_fewest t) (hr.mono (by decide)) (t.F_Runs_is_row_of_fewest.binds fun _ _ _ _ _ _ us hl => match us, hl with | [_, _, _], _ => rfl) takes0 (se_var (pv 3)) (sa_cons (se_var (pv 5)) (sa_cons (se_var (pv 8)) sa_nil)))))) (fun _ _ _ _ _ => (se_var (pv 8))))) (se_un o_neg se_int)))
  (ss_cons (st_set (i := 7) sc_told_table.nd rfl (Or.inl rfl) (se_if (st_cmp (o_eq hr.units) (se_var (pv 5)) se_int (nomark _)) se_int (se_ix (se_fld nmOk (by decide) rfl (fun c hc => by cases Nat.eq_of_beq_eq_true hc; exact ⟨t.own_Runs.cl, t.na_Runs_differences⟩) (se_var (pv 3))) (se_var (pv 5)))))
  (ss_cons (st_ex (se_app (se_var (pv 4)) (se_call (ok_row_for t) (hr.mono (by decide)) rfl t.g_row_for t.F_row_for.kp (t.F_row_for.binds fun _ _ _ _ _ _ us hl => match us, hl with | [_, _, _, _], _ => rfl) (takes_of rfl rfl rfl rfl) (sa_cons (se_var (pv 0)) (sa_cons (se_var (pv 1)) (sa_cons (se_var (pv 7)) (sa_cons (se_meth (c := 45) (n := 33) nmOk (by decide) rfl t.own_Runs.cl t.me_Runs_within (ok_Runs_within t) (hr.mono (by decide)) (t.F_Runs_within.binds fun _ _ _ _ _ _ us hl => match us, hl with | [_, _, _], _ => rfl) (takes_of rfl rfl rfl rfl) (se_var (pv 3)) (sa_cons (se_var (pv 5)) (sa_cons (se_var (pv 6)) sa_nil))) sa_nil)))))))
  (ss_one (st_set (i := 5) sc_told_table.nd rfl (Or.inr rfl) (se_bin o_add (se_var (pv 6)) se_int)))))))
  (ss_one (st_ret (se_var (pv 4))))))))))
theorem ok_may_follow (t : Txt P K mg) : FnOk P w K mg base (L2.CX P w) 8 (He.ga K "may_follow") (fdOf K (He.ga K "may_follow")) ["low", "high", "games", "upper", "lower", "result"] (spEv ⟨K, (TT K).ca, (TT K).nm, (TT K).fld, (TT K).ex⟩ c_may_follow) :=
  fn_ok (T := TT K) fin_ok t.F_may_follow sc_may_follow fun cdv A outer s H E hr => (ss_cons (st_ex (se_call (ok_check_told t) (hr.mono (by decide)) rfl t.g_check_told t.F_check_told.kp (t.F_check_told.binds fun _ _ _ _ _ _ us hl => match us, hl with | [_, _, _], _ => rfl) (takes_of rfl rfl rfl rfl) (sa_cons (se_var (pv 0)) (sa_cons (se_var (pv 1)) (sa_cons (se_var (pv 2)) sa_nil)))))
  (ss_cons (st_if (st_not (st_val (se_call (ok_is_integer t) (hr.mono (by decide)) rfl t.g_is_integer t.F_is_integer.kp (t.F_is_integer.binds fun _ _ _ _ _ _ us hl => match us, hl with | [_, _, _], _ => rfl) (takes_of rfl rfl rfl rfl) (sa_cons (se_var (pv 3)) (sa_cons (se_var (pv 0)) (sa_cons (se_var (pv 1)) sa_nil)))))) (ss_one (st_raise (c := 4) rfl t.er_BadGame hr t.g_BadGame (takes_of rfl rfl rfl rfl) (se_var (pv 3)))) ss_nil)
  (ss_cons (st_if (st_not (st_val (se_call (ok_is_integer t) (hr.mono (by decide)) rfl t.g_is_integer t.F_is_integer.kp (t.F_is_integer.binds fun _ _ _ _ _ _ us hl => match us, hl with | [_, _, _], _ => rfl) (takes_of rfl rfl rfl rfl) (sa_cons (se_var (pv 4)) (sa_cons (se_var (pv 0)) (sa_cons (se_var (pv 3)) sa_nil)))))) (ss_one (st_raise (c := 4) rfl t.er_BadGame hr t.g_BadGame (takes_of rfl rfl rfl rfl) (se_var (pv 4)))) ss_nil)
  (ss_cons (st_if (st_not (st_val (se_call (ok_is_result t) (hr.mono (by decide)) rfl t.g_is_result t.F_is_result.kp (t.F_is_result.binds fun _ _ _ _ _ _ us hl => match us, hl with | [_], _ => rfl) (takes_of rfl rfl rfl rfl) (sa_cons (se_var (pv 5)) sa_nil)))) (ss_one (st_raise (c := 4) rfl t.er_BadGame hr t.g_BadGame (takes_of rfl rfl rfl rfl) (se_var (pv 5)))) ss_nil)
  (ss_cons (st_set (i := 6) sc_may_follow.nd rfl (Or.inl rfl) (se_make (c := 45) fin_ok t.g_Runs t.mk_Runs (ok_Runs___init__ t) (hr.mono (by decide)) (t.F_Runs___init__.binds fun _ _ _ _ _ _ us hl => match us, hl with | [_, _, _, _], _ => rfl) (takes_of rfl rfl rfl rfl) (sa_cons (se_var (pv 0)) (sa_cons (se_var (pv 1)) (sa_cons (se_var (pv 2)) sa_nil)))))
  (ss_cons (st_if (st_cmp o_is (se_meth0 (c := 45) (n := 24) nmOk (by decide) rfl t.own_Runs.cl t.me_Runs_fewest (ok_Runs_fewest t) (hr.mono (by decide)) (t.F_Runs_fewest.binds fun _ _ _ _ _ _ us hl => match us, hl with | [_], _ => rfl) (takes_of rfl rfl rfl rfl) (se_var (pv 6))) se_non (nomark _)) (ss_one (st_ret se_non)) ss_nil)
  (ss_cons (st_set (i := 7) sc_may_follow.nd rfl (Or.inl rfl) se_d0T)
  (ss_cons (st_for (passes_of rfl) rfl (si_seq (se_call (ok_rows_for t) (hr.mono (by decide)) rfl t.g_rows_for t.F_rows_for.kp (t.F_rows_for.binds fun _ _ _ _ _ _ us hl => match us, hl with | [_, _, _], _ => rfl) (takes_of rfl rfl rfl rfl) (sa_cons (se_var (pv 6)) (sa_cons (se_bin o_sub (se_var (pv 3)) (se_var (pv 4))) (sa_cons (se_var (pv 5)) sa_nil))))) (pg_tup (n := 2) (t := gsNames [8, 9]) rfl (pgs_cons (pg_name (i := 8) sc_may_follow.nd rfl (Or.inl rfl)) (pgs_cons (pg_name (i := 9) sc_may_follow.nd rfl (Or.inl rfl)) pgs_nil))) (gok_tup (is := [8, 9]) (vs := [8, 9]) (by simp)) (ss_one (st_for (passes_of rfl) rfl (si_range2 rfl t.z_range (sa_cons (se_ix (se_var (pv 8)) se_int) (sa_cons (se_bin o_add (se_ix (se_var (pv 8)) se_int) se_int) sa_nil))) (pg_name (i := 10) sc_may_follow.nd rfl (Or.inl rfl)) (gok_name (vs := [10]) (by simp)) (ss_one (st_for (passes_of rfl) rfl (si_range2 rfl t.z_range (sa_cons (se_ix (se_var (pv 9)) se_int) (sa_cons (se_bin o_add (se_ix (se_var (pv 9)) se_int) se_int) sa_nil))) (pg_name (i := 11) sc_may_follow.nd rfl (Or.inl rfl)) (gok_name (vs := [11]) (by simp)) (ss_one (st_dputT (u1 hr) se_bl (se_var (pv 7)) (sa_cons (se_call (ok_cut t) (hr.mono (by decide)) rfl t.g_cut t.F_cut.kp (t.F_cut.binds fun _ _ _ _ _ _ us hl => match us, hl with | [_, _, _], _ => rfl) (takes_of rfl rfl rfl rfl) (sa_cons (se_var (pv 0)) (sa_cons (se_var (pv 1)) (sa_cons (se_bin o_add (se_var (pv 3)) (se_var (pv 10))) sa_nil)))) (sa_cons (se_call (ok_cut t) (hr.mono (by decide)) rfl t.g_cut t.F_cut.kp (t.F_cut.binds fun _ _ _ _ _ _ us hl => match us, hl with | [_, _, _], _ => rfl) (takes_of rfl rfl rfl rfl) (sa_cons (se_var (pv 0)) (sa_cons (se_var (pv 1)) (sa_cons (se_bin o_add (se_var (pv 4)) (se_var (pv 11))) sa_nil)))) sa_nil)))))))))
  (ss_one (st_ret (se_call (ok_sorted_pairs t) (hr.mono (by decide)) rfl t.g_sorted_pairs t.F_sorted_pairs.kp (t.F_sorted_pairs.binds fun _ _ _ _ _ _ us hl => match us, hl with | [_], _ => rfl) (takes_of rfl rfl rfl rfl) (sa_cons (se_lst (sl_keysT rfl t.z_list (se_var (pv 7)))) sa_nil))))))))))))
theorem ok__law_call (t : Txt P K mg) : FnOk P w K mg base (L2.CX P w) 9 (He.ga K "_law_call") (fdOf K (He.ga K "_law_call")) ["_law_way", "_law_low", "_law_high", "_law_games", "_law_more"] (spEv ⟨K, (TT K).ca, (TT K).nm, (TT K).fld, (TT K).ex⟩ c__law_call) :=
  fn_ok (T := TT K) fin_ok t.F__law_call sc__law_call fun cdv A outer s H E hr => (ss_one (st_if (st_cmp (o_eq hr.units) (se_var (pv 0)) se_int (nomark _)) (ss_one (st_ex (se_call (ok_fewest_rows t) (hr.mono (by decide)) rfl t.g_fewest_rows t.F_fewest_rows.kp (t.F_fewest_rows.binds fun _ _ _ _ _ _ us hl => match us, hl with | [_, _, _], _ => rfl) (takes_of rfl rfl rfl rfl) (sa_cons (se_var (pv 1)) (sa_cons (se_var (pv 2)) (sa_cons (se_var (pv 3)) sa_nil)))))) (ss_one (st_if (st_cmp (o_eq hr.units) (se_var (pv 0)) se_int (nomark _)) (ss_one (st_ex (se_call (ok_told_table t) (hr.mono (by decide)) rfl t.g_told_table t.F_told_table.kp (t.F_told_table.binds fun _ _ _ _ _ _ us hl => match us, hl with | [_, _, _], _ => rfl) (takes_of rfl rfl rfl rfl) (sa_cons (se_var (pv 1)) (sa_cons (se_var (pv 2)) (sa_cons (se_var (pv 3)) sa_nil)))))) (ss_one (st_if (st_cmp (o_eq hr.units) (se_var (pv 0)) se_int (nomark _)) (ss_one (st_ex (se_call (ok_unlike_games t) (hr.mono (by decide)) rfl t.g_unlike_games t.F_unlike_games.kp (t.F_unlike_games.binds fun _ _ _ _ _ _ us hl => match us, hl with | [_, _, _], _ => rfl) (takes_of rfl rfl rfl rfl) (sa_cons (se_var (pv 1)) (sa_cons (se_var (pv 2)) (sa_cons (se_var (pv 3)) sa_nil)))))) (ss_one (st_if (st_cmp (o_eq hr.units) (se_var (pv 0)) se_int (nomark _)) (ss_one (st_ex (se_call (ok_explains t) (hr.mono (by decide)) rfl t.g_explains t.F_explains.kp (t.F_explains.binds fun _ _ _ _ _ _ us hl => match us, hl with | [_, _, _, _], _ => rfl) (takes_of rfl rfl rfl rfl) (sa_cons (se_var (pv 1)) (sa_cons (se_var (pv 2)) (sa_cons (se_var (pv 3)) (sa_cons se_non sa_nil))))))) (ss_one (st_ex (se_call (ok_may_follow t) (hr.mono (by decide)) rfl t.g_may_follow t.F_may_follow.kp (t.F_may_follow.binds fun _ _ _ _ _ _ us hl => match us, hl with | [_, _, _, _, _, _], _ => rfl) (takes_of rfl rfl rfl rfl) (sa_cons (se_var (pv 1)) (sa_cons (se_var (pv 2)) (sa_cons (se_var (pv 3)) (sa_cons (se_ix (se_var (pv 4)) se_int) (sa_cons (se_ix (se_var (pv 4)) se_int) (sa_cons (se_ix (se_var (pv 4)) se_int) sa_nil)))))))))))))))))
theorem ok__law_told (t : Txt P K mg) : FnG P w K mg base (L2.CX P w) 10 (He.ga K "_law_told") (fdOf K (He.ga K "_law_told")) ["_law_way", "_law_low", "_law_high", "_law_games", "_law_more"] (spEv ⟨K, (TT K).ca, (TT K).nm, (TT K).fld, (TT K).ex⟩ c__law_told) :=
  fnG_ok (T := TT K) fin_ok t.F__law_told sc__law_told fun cdv A outer s H E hr hG => (ss_cons (st_tryM (i := 5) rfl rfl rfl sc__law_told.nd rfl rfl (takes_of rfl rfl rfl rfl) (fun W pn xe tk po => (ss_one (st_ex (se_call (ok__law_call t) (hr.mono (by decide)) rfl t.g__law_call t.F__law_call.kp (t.F__law_call.binds fun _ _ _ _ _ _ us hl => match us, hl with | [_, _, _, _, _], _ => rfl) tk (sa_cons (se_var (pv 0)) (sa_cons (se_var (pv 1)) (sa_cons (se_var (pv 2)) (sa_cons (se_var (pv 3)) (sa_cons (se_var (pv 4)) sa_nil)))))))))
 (.cons (cv := .ref ((TT K).ca 1)) ⟨rfl, by decide, Or.inl t.g_BadNumber⟩ (fun c b h => match c, h with | 0, h => nomatch h | 1, h => by cases h; exact t.exm_1_BadNumber | 2, h => nomatch h | 3, h => nomatch h | 4, h => by cases h; exact t.exm_4_BadNumber | 5, h => nomatch h | 6, h => nomatch h | 7, h => nomatch h | 8, h => nomatch h | 9, h => nomatch h | 10, h => nomatch h | 11, h => nomatch h | 12, h => nomatch h | 13, h => nomatch h | 14, h => nomatch h | 15, h => nomatch h | 16, h => nomatch h | 17, h => nomatch h | 18, h => nomatch h | 19, h => nomatch h | 20, h => by cases h; exact t.exm_20_BadNumber | 21, h => nomatch h | 22, h => nomatch h | 23, h => nomatch h | 24, h => nomatch h | 25, h => nomatch h | 26, h => nomatch h | (m + 27), h => nomatch h)
 (fun a oe c dx pn hc hz hff => match c, hc, hz with | 0, hc, _ => absurd hc (by decide) | 1, _, hz => (ss_one (st_ret (se_lst (sl_lst (sa_cons se_str (sa_cons (se_cb (g_reprD hG (by have z := u70 hr; exact z)) t.z_repr (by decide +kernel) (sa_cons (se_xf t.xf_1.1 t.no_1 rfl hz hff (se_var (pv 5))) sa_nil)) sa_nil)))))) | 2, hc, _ => absurd hc (by decide) | 3, hc, _ => absurd hc (by decide) | 4, hc, _ => absurd hc (by decide) | 5, hc, _ => absurd hc (by decide) | 6, hc, _ => absurd hc (by decide) | 7, hc, _ => absurd hc (by decide) | 8, hc, _ => absurd hc (by decide) | 9, hc, _ => absurd hc (by decide) | 10, hc, _ => absurd hc (by decide) | 11, hc, _ => absurd hc (by decide) | 12, hc, _ => absurd hc (by decide) | 13, hc, _ => absurd hc (by decide) | 14, hc, _ => absurd hc (by decide) | 15, hc, _ => absurd hc (by decide) | 16, hc, _ => absurd hc (by decide) | 17, hc, _ => absurd hc (by decide) | 18, hc, _ => absurd hc (by decide) | 19, hc, _ => absurd hc (by decide) | 20, hc, _ => absurd hc (by decide) | 21, hc, _ => absurd hc (by decide) | 22, hc, _ => absurd hc (by decide) | 23, hc, _ => absurd hc (by decide) | 24, hc, _ => absurd hc (by decide) | 25, hc, _ => absurd hc (by decide) | 26, hc, _ => absurd hc (by decide) | (m + 27), hc, _ => absurd hc (fun h => nomatch h))
 (.cons (cv := .ref ((TT K).ca 20)) ⟨rfl, by decide, Or.inl t.g_BadTold⟩ (fun c b h => match c, h with | 0, h => nomatch h | 1, h => by cases h; exact t.exm_1_BadTold | 2, h => nomatch h | 3, h => nomatch h | 4, h => by cases h; exact t.exm_4_BadTold | 5, h => nomatch h | 6, h => nomatch h | 7, h => nomatch h | 8, h => nomatch h | 9, h => nomatch h | 10, h => nomatch h | 11, h => nomatch h | 12, h => nomatch h | 13, h => nomatch h | 14, h => nomatch h | 15, h => nomatch h | 16, h => nomatch h | 17, h => nomatch h | 18, h => nomatch h | 19, h => nomatch h | 20, h => by cases h; exact t.exm_20_BadTold | 21, h => nomatch h | 22, h => nomatch h | 23, h => nomatch h | 24, h => nomatch h | 25, h => nomatch h | 26, h => nomatch h | (m + 27), h => nomatch h)
 (fun a oe c dx pn hc hz hff => match c, hc, hz with | 0, hc, _ => absurd hc (by decide) | 1, hc, _ => absurd hc (by decide) | 2, hc, _ => absurd hc (by decide) | 3, hc, _ => absurd hc (by decide) | 4, hc, _ => absurd hc (by decide) | 5, hc, _ => absurd hc (by decide) | 6, hc, _ => absurd hc (by decide) | 7, hc, _ => absurd hc (by decide) | 8, hc, _ => absurd hc (by decide) | 9, hc, _ => absurd hc (by decide) | 10, hc, _ => absurd hc (by decide) | 11, hc, _ => absurd hc (by decide) | 12, hc, _ => absurd hc (by decide) | 13, hc, _ => absurd hc (by decide) | 14, hc, _ => absurd hc (by decide) | 15, hc, _ => absurd hc (by decide) | 16, hc, _ => absurd hc (by decide) | 17, hc, _ => absurd hc (by decide) | 18, hc, _ => absurd hc (by decide) | 19, hc, _ => absurd hc (by decide) | 20, _, hz => (ss_one (st_ret (se_lst (sl_lst (sa_cons se_str (sa_cons (se_xf t.xf_20.1 t.no_20 rfl hz hff (se_var (pv 5))) sa_nil)))))) | 21, hc, _ => absurd hc (by decide) | 22, hc, _ => absurd hc (by decide) | 23, hc, _ => absurd hc (by decide) | 24, hc, _ => absurd hc (by decide) | 25, hc, _ => absurd hc (by decide) | 26, hc, _ => absurd hc (by decide) | (m + 27), hc, _ => absurd hc (fun h => nomatch h))
 (.cons (cv := .ref ((TT K).ca 4)) ⟨rfl, by decide, Or.inl t.g_BadGame⟩ (fun c b h => match c, h with | 0, h => nomatch h | 1, h => by cases h; exact t.exm_1_BadGame | 2, h => nomatch h | 3, h => nomatch h | 4, h => by cases h; exact t.exm_4_BadGame | 5, h => nomatch h | 6, h => nomatch h | 7, h => nomatch h | 8, h => nomatch h | 9, h => nomatch h | 10, h => nomatch h | 11, h => nomatch h | 12, h => nomatch h | 13, h => nomatch h | 14, h => nomatch h | 15, h => nomatch h | 16, h => nomatch h | 17, h => nomatch h | 18, h => nomatch h | 19, h => nomatch h | 20, h => by cases h; exact t.exm_20_BadGame | 21, h => nomatch h | 22, h => nomatch h | 23, h => nomatch h | 24, h => nomatch h | 25, h => nomatch h | 26, h => nomatch h | (m + 27), h => nomatch h)
 (fun a oe c dx pn hc hz hff => match c, hc, hz with | 0, hc, _ => absurd hc (by decide) | 1, hc, _ => absurd hc (by decide) | 2, hc, _ => absurd hc (by decide) | 3, hc, _ => absurd hc (by decide) | 4, _, hz => (ss_one (st_ret (se_lst (sl_lst (sa_cons se_str (sa_cons (se_cb (g_reprD hG (by have z := u70 hr; exact z)) t.z_repr (by decide +kernel) (sa_cons (se_xf t.xf_4.1 t.no_4 rfl hz hff (se_var (pv 5))) sa_nil)) sa_nil)))))) | 5, hc, _ => absurd hc (by decide) | 6, hc, _ => absurd hc (by decide) | 7, hc, _ => absurd hc (by decide) | 8, hc, _ => absurd hc (by decide) | 9, hc, _ => absurd hc (by decide) | 10, hc, _ => absurd hc (by decide) | 11, hc, _ => absurd hc (by decide) | 12, hc, _ => absurd hc (by decide) | 13, hc, _ => absurd hc (by decide) | 14, hc, _ => absurd hc (by decide) | 15, hc, _ => absurd hc (by decide) | 16, hc, _ => absurd hc (by decide) | 17, hc, _ => absurd hc (by decide) | 18, hc, _ => absurd hc (by decide) | 19, hc, _ => absurd hc (by decide) | 20, hc, _ => absurd hc (by decide) | 21, hc, _ => absurd hc (by decide) | 22, hc, _ => absurd hc (by decide) | 23, hc, _ => absurd hc (by decide) | 24, hc, _ => absurd hc (by decide) | 25, hc, _ => absurd hc (by decide) | 26, hc, _ => absurd hc (by decide) | (m + 27), hc, _ => absurd hc (fun h => nomatch h))
 .nil))))
  (ss_one (st_ret (se_lst (sl_lst sa_nil)))))
theorem ok__law_far_right (t : Txt P K mg) : FnG P w K mg base (L2.CX P w) 11 (He.ga K "_law_far_right") (fdOf K (He.ga K "_law_far_right")) [] (spEv ⟨K, (TT K).ca, (TT K).nm, (TT K).fld, (TT K).ex⟩ c__law_far_right) :=
  fnG_ok (T := TT K) fin_ok t.F__law_far_right sc__law_far_right fun cdv A outer s H E hr hG => (ss_cons (st_for (passes_of rfl) rfl (si_range1 rfl t.z_range (sa_cons se_int sa_nil)) (pg_name (i := 0) sc__law_far_right.nd rfl (Or.inl rfl)) (gok_name (vs := [0]) (by simp)) (ss_cons (st_for (passes_of rfl) rfl (si_tmp (sl_lst (sa_cons (se_tup (sa_cons se_int (sa_cons se_int (sa_cons se_str (sa_cons se_int (sa_cons se_int sa_nil)))))) (sa_cons (se_tup (sa_cons se_int (sa_cons se_int (sa_cons se_str (sa_cons se_int (sa_cons se_int sa_nil)))))) (sa_cons (se_tup (sa_cons se_int (sa_cons se_int (sa_cons se_str (sa_cons se_int (sa_cons se_int sa_nil)))))) (sa_cons (se_tup (sa_cons se_int (sa_cons se_int (sa_cons se_str (sa_cons se_int (sa_cons se_int sa_nil)))))) (sa_cons (se_tup (sa_cons se_int (sa_cons se_int (sa_cons se_str (sa_cons se_int (sa_cons se_int sa_nil)))))) sa_nil))))))) (pg_name (i := 1) sc__law_far_right.nd rfl (Or.inl rfl)) (gok_name (vs := [1]) (by simp)) (ss_one (st_if (st_cmp (o_ne hr.units) (se_callG (ok__law_told t) (hr.mono (by decide)) hG rfl t.g__law_told t.F__law_told.kp (t.F__law_told.binds fun _ _ _ _ _ _ us hl => match us, hl with | [_, _, _, _, _], _ => rfl) (takes_of rfl rfl rfl rfl) (sa_cons (se_var (pv 0)) (sa_cons se_int (sa_cons se_int (sa_cons (se_lst (sl_lst (sa_cons (se_var (pv 1)) sa_nil))) (sa_cons (se_lst (sl_lst (sa_cons se_int (sa_cons se_int (sa_cons se_str sa_nil))))) sa_nil)))))) (se_lst (sl_lst (sa_cons se_str (sa_cons se_int sa_nil)))) (nomark _)) (ss_one (st_ret se_bl)) ss_nil)))
  (ss_one (st_for (passes_of rfl) rfl (si_tmp (sl_lst (sa_cons (se_tup (sa_cons se_int (sa_cons se_int (sa_cons se_str (sa_cons se_int (sa_cons se_int sa_nil)))))) (sa_cons (se_tup (sa_cons se_int (sa_cons se_int (sa_cons se_str (sa_cons se_int (sa_cons se_int sa_nil)))))) (sa_cons (se_tup (sa_cons se_int (sa_cons se_int (sa_cons se_str (sa_cons se_int (sa_cons se_int sa_nil)))))) (sa_cons (se_tup (sa_cons se_int (sa_cons se_int (sa_cons se_str (sa_cons se_int (sa_cons se_int sa_nil)))))) sa_nil)))))) (pg_name (i := 2) sc__law_far_right.nd rfl (Or.inl rfl)) (gok_name (vs := [2]) (by simp)) (ss_one (st_if (st_cmp (o_ne hr.units) (se_callG (ok__law_told t) (hr.mono (by decide)) hG rfl t.g__law_told t.F__law_told.kp (t.F__law_told.binds fun _ _ _ _ _ _ us hl => match us, hl with | [_, _, _, _, _], _ => rfl) (takes_of rfl rfl rfl rfl) (sa_cons (se_var (pv 0)) (sa_cons se_int (sa_cons se_int (sa_cons (se_lst (sl_lst (sa_cons (se_var (pv 2)) sa_nil))) (sa_cons (se_lst (sl_lst (sa_cons se_int (sa_cons se_int (sa_cons se_str sa_nil))))) sa_nil)))))) (se_lst (sl_lst sa_nil)) (nomark _)) (ss_one (st_ret se_bl)) ss_nil))))))
  (ss_one (st_ret se_bl)))
theorem ok_law (t : Txt P K mg) : FnG P w K mg base (L2.CX P w) 12 (He.ga K "law") (fdOf K (He.ga K "law")) ["_law_script"] (spEv ⟨K, (TT K).ca, (TT K).nm, (TT K).fld, (TT K).ex⟩ c_law) :=
  fnG_ok (T := TT K) fin_ok t.F_law sc_law fun cdv A outer s H E hr hG => (ss_cons (st_if (st_not (st_val (se_callG0 (ok__law_far_right t) (hr.mono (by decide)) hG rfl t.g__law_far_right t.F__law_far_right.kp (t.F__law_far_right.binds fun _ _ _ _ _ _ us hl => match us, hl with | [], _ => rfl) (takes_of rfl rfl rfl rfl)))) (ss_one (st_ret se_bl)) ss_nil)
  (ss_cons (st_forK [1, 2, 3, 4, 5, 6, 7, 8] (passes_of rfl) rfl (si_range1 rfl t.z_range (sa_cons (se_cb (g_max2 rfl) t.z_max (by decide +kernel) (sa_cons se_int (sa_cons (se_cb (g_min2 rfl) t.z_min (by decide +kernel) (sa_cons (se_it g_len t.z_len (by decide +kernel) (se_var (pv 0))) (sa_cons se_int sa_nil))) sa_nil))) sa_nil)) (pg_name (i := 1) sc_law.nd rfl (Or.inl rfl)) (gok_name (vs := [1]) (by simp)) (ss_cons (st_set (i := 2) sc_law.nd rfl (Or.inl rfl) (se_call (ok__law_pool t) (hr.mono (by decide)) rfl t.g__law_pool t.F__law_pool.kp (t.F__law_pool.binds fun _ _ _ _ _ _ us hl => match us, hl with | [_, _], _ => rfl) (takes_of rfl rfl rfl rfl) (sa_cons (se_var (pv 0)) (sa_cons (se_var (pv 1)) sa_nil))))
  (ss_cons (st_set (i := 3) sc_law.nd rfl (Or.inl rfl) (se_bin o_add se_int (se_call (ok__law_draw t) (hr.mono (by decide)) rfl t.g__law_draw t.F__law_draw.kp (t.F__law_draw.binds fun _ _ _ _ _ _ us hl => match us, hl with | [_, _], _ => rfl) (takes_of rfl rfl rfl rfl) (sa_cons (se_var (pv 2)) (sa_cons se_int sa_nil)))))
  (ss_cons (st_set (i := 4) sc_law.nd rfl (Or.inl rfl) (se_bin o_add (se_var (pv 3)) (se_call (ok__law_draw t) (hr.mono (by decide)) rfl t.g__law_draw t.F__law_draw.kp (t.F__law_draw.binds fun _ _ _ _ _ _ us hl => match us, hl with | [_, _], _ => rfl) (takes_of rfl rfl rfl rfl) (sa_cons (se_var (pv 2)) (sa_cons se_int sa_nil)))))
  (ss_cons (st_set (i := 5) sc_law.nd rfl (Or.inl rfl) (se_lst (sl_lst (sa_cons (se_tup (sa_cons (se_var (pv 3)) (sa_cons (se_var (pv 3)) (sa_cons se_str (sa_cons (se_var (pv 3)) (sa_cons (se_var (pv 3)) sa_nil)))))) (sa_cons (se_tup (sa_cons (se_var (pv 4)) (sa_cons (se_var (pv 3)) (sa_cons se_str (sa_cons (se_var (pv 4)) (sa_cons (se_var (pv 4)) sa_nil)))))) sa_nil)))))
  (ss_cons (st_set (i := 6) sc_law.nd rfl (Or.inl rfl) (se_new (sl_lst (sa_cons se_non (sa_cons se_int (sa_cons (se_cutA (se_ix (se_var (pv 5)) se_int) so_none (so_some se_int)) (sa_cons (se_lst (sl_list t.z_list (se_ix (se_var (pv 5)) se_int))) (sa_cons (se_tup (sa_cons (se_bin o_sub (se_var (pv 3)) se_int) (sa_cons (se_bin o_sub (se_var (pv 3)) se_int) (sa_cons se_str (sa_cons (se_var (pv 3)) (sa_cons (se_var (pv 3)) sa_nil)))))) (sa_cons (se_tup (sa_cons (se_var (pv 3)) (sa_cons (se_bin o_add (se_var (pv 4)) se_int) (sa_cons se_str (sa_cons (se_var (pv 3)) (sa_cons (se_var (pv 3)) sa_nil)))))) sa_nil)))))))))
  (ss_cons (st_set (i := 6) sc_law.nd rfl (Or.inl rfl) (se_new (sl_add (se_var (pv 6)) (se_lst (sl_lst (sa_cons (se_tup (sa_cons (se_var (pv 3)) (sa_cons (se_var (pv 3)) (sa_cons se_str (sa_cons (se_var (pv 3)) (sa_cons (se_var (pv 3)) sa_nil)))))) (sa_cons (se_tup (sa_cons (se_var (pv 3)) (sa_cons (se_var (pv 3)) (sa_cons se_non (sa_cons (se_var (pv 3)) (sa_cons (se_var (pv 3)) sa_nil)))))) (sa_cons (se_tup (sa_cons (se_var (pv 3)) (sa_cons (se_var (pv 3)) (sa_cons se_str (sa_cons (se_bin o_add (se_var (pv 4)) se_int) (sa_cons (se_var (pv 3)) sa_nil)))))) sa_nil))))))))
  (ss_cons (st_set (i := 6) sc_law.nd rfl (Or.inl rfl) (se_new (sl_add (se_var (pv 6)) (se_lst (sl_lst (sa_cons (se_tup (sa_cons (se_var (pv 3)) (sa_cons (se_var (pv 3)) (sa_cons se_str (sa_cons (se_var (pv 3)) (sa_cons (se_bin o_sub (se_var (pv 3)) se_int) sa_nil)))))) (sa_cons (se_tup (sa_cons (se_var (pv 3)) (sa_cons (se_var (pv 3)) (sa_cons se_str (sa_cons se_bl (sa_cons (se_var (pv 3)) sa_nil)))))) (sa_cons (se_tup (sa_cons (se_var (pv 3)) (sa_cons (se_var (pv 3)) (sa_cons (se_lst (sl_lst (sa_cons se_str sa_nil))) (sa_cons (se_var (pv 3)) (sa_cons (se_var (pv 3)) sa_nil)))))) sa_nil))))))))
  (ss_cons (st_if (st_cmp o_gt (se_var (pv 4)) (se_var (pv 3)) (nomark _)) (ss_one (st_ex (se_app (se_var (pv 6)) (se_tup (sa_cons (se_var (pv 3)) (sa_cons (se_var (pv 4)) (sa_cons se_str (sa_cons (se_var (pv 3)) (sa_cons (se_var (pv 4)) sa_nil))))))))) ss_nil)
  (ss_cons (st_forK [7, 8] (passes_of rfl) rfl (si_range1 rfl t.z_range (sa_cons se_int sa_nil)) (pg_name (i := 7) sc_law.nd rfl (Or.inl rfl)) (gok_name (vs := [7]) (by simp)) (ss_cons (st_forK [8] (passes_of rfl) rfl (si_tmp (sl_lst (sa_cons se_non (sa_cons (se_un o_neg se_int) (sa_cons se_int (sa_cons se_bl (sa_cons se_str sa_nil))))))) (pg_name (i := 8) sc_law.nd rfl (Or.inl rfl)) (gok_name (vs := [8]) (by simp)) (ss_one (st_if (st_cmp (o_ne hr.units) (se_callG (ok__law_told t) (hr.mono (by decide)) hG rfl t.g__law_told t.F__law_told.kp (t.F__law_told.binds fun _ _ _ _ _ _ us hl => match us, hl with | [_, _, _, _, _], _ => rfl) (takes_of rfl rfl rfl rfl) (sa_cons (se_var (pv 7)) (sa_cons (se_var (pv 8)) (sa_cons se_non (sa_cons se_non (sa_cons (se_bin o_mul (se_lst (sl_lst (sa_cons se_non sa_nil))) se_int) sa_nil)))))) (se_lst (sl_lst (sa_cons se_str (sa_cons (se_cb (g_reprD hG (by have z := u70 hr; exact z)) t.z_repr (by decide +kernel) (sa_cons (se_var (pv 8)) sa_nil)) sa_nil)))) (nomark _)) (ss_one (st_ret se_bl)) ss_nil)))
  (ss_cons (st_forK [8] (passes_of rfl) rfl (si_tmp (sl_lst (sa_cons se_non (sa_cons (se_bin o_sub (se_var (pv 3)) se_int) (sa_cons se_int (sa_cons se_bl sa_nil)))))) (pg_name (i := 8) sc_law.nd rfl (Or.inl rfl)) (gok_name (vs := [8]) (by simp)) (ss_one (st_if (st_cmp (o_ne hr.units) (se_callG (ok__law_told t) (hr.mono (by decide)) hG rfl t.g__law_told t.F__law_told.kp (t.F__law_told.binds fun _ _ _ _ _ _ us hl => match us, hl with | [_, _, _, _, _], _ => rfl) (takes_of rfl rfl rfl rfl) (sa_cons (se_var (pv 7)) (sa_cons (se_var (pv 3)) (sa_cons (se_var (pv 8)) (sa_cons se_non (sa_cons (se_bin o_mul (se_lst (sl_lst (sa_cons se_non sa_nil))) se_int) sa_nil)))))) (se_lst (sl_lst (sa_cons se_str (sa_cons (se_cb (g_reprD hG (by have z := u70 hr; exact z)) t.z_repr (by decide +kernel) (sa_cons (se_var (pv 8)) sa_nil)) sa_nil)))) (nomark _)) (ss_one (st_ret se_bl)) ss_nil)))
  (ss_cons (st_forK [8] (passes_of rfl) rfl (si_tmp (sl_lst (sa_cons se_non (sa_cons se_int (sa_cons se_str (sa_cons se_d0 sa_nil)))))) (pg_name (i := 8) sc_law.nd rfl (Or.inl rfl)) (gok_name (vs := [8]) (by simp)) (ss_one (st_if (st_cmp (o_ne hr.units) (se_callG (ok__law_told t) (hr.mono (by decide)) hG rfl t.g__law_told t.F__law_told.kp (t.F__law_told.binds fun _ _ _ _ _ _ us hl => match us, hl with | [_, _, _, _, _], _ => rfl) (takes_of rfl rfl rfl rfl) (sa_cons (se_var (pv 7)) (sa_cons (se_var (pv 3)) (sa_cons (se_var (pv 4)) (sa_cons (se_var (pv 8)) (sa_cons (se_bin o_mul (se_lst (sl_lst (sa_cons se_non sa_nil))) se_int) sa_nil)))))) (se_lst (sl_lst (sa_cons se_str (sa_cons se_non sa_nil)))) (nomark _)) (ss_one (st_ret se_bl)) ss_nil)))
  (ss_cons (st_forK [8] (passes_of rfl) rfl (si_seq (se_var (pv 6))) (pg_name (i := 8) sc_law.nd rfl (Or.inl rfl)) (gok_name (vs := [8]) (by simp)) (ss_one (st_if (st_cmp (o_ne hr.units) (se_callG (ok__law_told t) (hr.mono (by decide)) hG rfl t.g__law_told t.F__law_told.kp (t.F__law_told.binds fun _ _ _ _ _ _ us hl => match us, hl with | [_, _, _, _, _], _ => rfl) (takes_of rfl rfl rfl rfl) (sa_cons (se_var (pv 7)) (sa_cons (se_var (pv 3)) (sa_cons (se_var (pv 4)) (sa_cons (se_bin o_add (se_var (pv 5)) (se_lst (sl_lst (sa_cons (se_var (pv 8)) (sa_cons se_non sa_nil))))) (sa_cons (se_bin o_mul (se_lst (sl_lst (sa_cons se_non sa_nil))) se_int) sa_nil)))))) (se_lst (sl_lst (sa_cons se_str (sa_cons se_int sa_nil)))) (nomark _)) (ss_one (st_ret se_bl)) ss_nil)))
  (ss_one (st_if (st_cmp (o_ne hr.units) (se_callG (ok__law_told t) (hr.mono (by decide)) hG rfl t.g__law_told t.F__law_told.kp (t.F__law_told.binds fun _ _ _ _ _ _ us hl => match us, hl with | [_, _, _, _, _], _ => rfl) (takes_of rfl rfl rfl rfl) (sa_cons (se_var (pv 7)) (sa_cons (se_var (pv 3)) (sa_cons (se_var (pv 4)) (sa_cons (se_var (pv 5)) (sa_cons (se_lst (sl_lst (sa_cons (se_var (pv 4)) (sa_cons (se_var (pv 3)) (sa_cons se_str sa_nil))))) sa_nil)))))) (se_lst (sl_lst sa_nil)) (nomark _)) (ss_one (st_ret se_bl)) ss_nil)))))))
  (ss_cons (st_forK [8] (passes_of rfl) rfl (si_tmp (sl_lst (sa_cons se_non (sa_cons (se_bin o_sub (se_var (pv 3)) se_int) (sa_cons (se_bin o_add (se_var (pv 4)) se_int) (sa_cons se_bl sa_nil)))))) (pg_name (i := 8) sc_law.nd rfl (Or.inl rfl)) (gok_name (vs := [8]) (by simp)) (ss_one (st_if (st_cmp (o_ne hr.units) (se_callG (ok__law_told t) (hr.mono (by decide)) hG rfl t.g__law_told t.F__law_told.kp (t.F__law_told.binds fun _ _ _ _ _ _ us hl => match us, hl with | [_, _, _, _, _], _ => rfl) (takes_of rfl rfl rfl rfl) (sa_cons se_int (sa_cons (se_var (pv 3)) (sa_cons (se_var (pv 4)) (sa_cons (se_var (pv 5)) (sa_cons (se_lst (sl_lst (sa_cons (se_var (pv 8)) (sa_cons se_non (sa_cons se_non sa_nil))))) sa_nil)))))) (se_lst (sl_lst (sa_cons se_str (sa_cons (se_cb (g_reprD hG (by have z := u70 hr; exact z)) t.z_repr (by decide +kernel) (sa_cons (se_var (pv 8)) sa_nil)) sa_nil)))) (nomark _)) (ss_one (st_ret se_bl)) ss_nil)))
  (ss_cons (st_forK [8] (passes_of rfl) rfl (si_tmp (sl_lst (sa_cons se_non (sa_cons (se_bin o_sub (se_var (pv 3)) se_int) (sa_cons (se_bin o_add (se_var (pv 4)) se_int) (sa_cons se_bl sa_nil)))))) (pg_name (i := 8) sc_law.nd rfl (Or.inl rfl)) (gok_name (vs := [8]) (by simp)) (ss_one (st_if (st_cmp (o_ne hr.units) (se_callG (ok__law_told t) (hr.mono (by decide)) hG rfl t.g__law_told t.F__law_told.kp (t.F__law_told.binds fun _ _ _ _ _ _ us hl => match us, hl with | [_, _, _, _, _], _ => rfl) (takes_of rfl rfl rfl rfl) (sa_cons se_int (sa_cons (se_var (pv 3)) (sa_cons (se_var (pv 4)) (sa_cons (se_var (pv 5)) (sa_cons (se_lst (sl_lst (sa_cons (se_var (pv 4)) (sa_cons (se_var (pv 8)) (sa_cons se_non sa_nil))))) sa_nil)))))) (se_lst (sl_lst (sa_cons se_str (sa_cons (se_cb (g_reprD hG (by have z := u70 hr; exact z)) t.z_repr (by decide +kernel) (sa_cons (se_var (pv 8)) sa_nil)) sa_nil)))) (nomark _)) (ss_one (st_ret se_bl)) ss_nil)))
  (ss_cons (st_if (st_bool (sw_and (st_cmp o_gt (se_var (pv 4)) (se_var (pv 3)) (nomark _)) (sw_one (st_cmp (o_ne hr.units) (se_callG (ok__law_told t) (hr.mono (by decide)) hG rfl t.g__law_told t.F__law_told.kp (t.F__law_told.binds fun _ _ _ _ _ _ us hl => match us, hl with | [_, _, _, _, _], _ => rfl) (takes_of rfl rfl rfl rfl) (sa_cons se_int (sa_cons (se_var (pv 3)) (sa_cons (se_var (pv 4)) (sa_cons (se_var (pv 5)) (sa_cons (se_lst (sl_lst (sa_cons (se_var (pv 3)) (sa_cons (se_var (pv 4)) (sa_cons se_str sa_nil))))) sa_nil)))))) (se_lst (sl_lst (sa_cons se_str (sa_cons (se_cb (g_reprD hG (by have z := u70 hr; exact z)) t.z_repr (by decide +kernel) (sa_cons (se_var (pv 4)) sa_nil)) sa_nil)))) (nomark _))))) (ss_one (st_ret se_bl)) ss_nil)
  (ss_one (st_forK [8] (passes_of rfl) rfl (si_tmp (sl_lst (sa_cons se_non (sa_cons se_str (sa_cons se_int (sa_cons (se_lst (sl_lst (sa_cons se_str sa_nil))) sa_nil)))))) (pg_name (i := 8) sc_law.nd rfl (Or.inl rfl)) (gok_name (vs := [8]) (by simp)) (ss_one (st_if (st_cmp (o_ne hr.units) (se_callG (ok__law_told t) (hr.mono (by decide)) hG rfl t.g__law_told t.F__law_told.kp (t.F__law_told.binds fun _ _ _ _ _ _ us hl => match us, hl with | [_, _, _, _, _], _ => rfl) (takes_of rfl rfl rfl rfl) (sa_cons se_int (sa_cons (se_var (pv 3)) (sa_cons (se_var (pv 4)) (sa_cons (se_var (pv 5)) (sa_cons (se_lst (sl_lst (sa_cons (se_var (pv 3)) (sa_cons (se_var (pv 3)) (sa_cons (se_var (pv 8)) sa_nil))))) sa_nil)))))) (se_lst (sl_lst (sa_cons se_str (sa_cons (se_cb (g_reprD hG (by have z := u70 hr; exact z)) t.z_repr (by decide +kernel) (sa_cons (se_var (pv 8)) sa_nil)) sa_nil)))) (nomark _)) (ss_one (st_ret se_bl)) ss_nil)))))))))))))))))
  (ss_one (st_ret se_bl))))
end
end K78
end
/-! ## K78H -/
section
set_option maxRecDepth 100000
set_option maxHeartbeats 0
namespace K78
open PySem L2 Lad
abbrev P0 : Program := PySem.Challenge.pw_liftedladders_k78_told_refused
abbrev d_is_whole : He.DefD := ⟨("is_whole", none), "is_whole", "is_whole", defArgs (top 7), defBody (top 7), defScope (top 7), [], []⟩
abbrev d_is_result : He.DefD := ⟨("is_result", none), "is_result", "is_result", defArgs (top 10), defBody (top 10), defScope (top 10), [], []⟩
abbrev d_bounds_of : He.DefD := ⟨("bounds_of", none), "bounds_of", "bounds_of", defArgs (top 18), defBody (top 18), defScope (top 18), [], []⟩
abbrev d_common : He.DefD := ⟨("common", none), "common", "common", defArgs (top 19), defBody (top 19), defScope (top 19), [], []⟩
abbrev d_sorted_pairs : He.DefD := ⟨("sorted_pairs", none), "sorted_pairs", "sorted_pairs", defArgs (top 27), defBody (top 27), defScope (top 27), [], []⟩
abbrev d_cut : He.DefD := ⟨("cut", none), "cut", "cut", defArgs (top 30), defBody (top 30), defScope (top 30), [], []⟩
abbrev d__law_pool : He.DefD := ⟨("_law_pool", none), "_law_pool", "_law_pool", defArgs (top 35), defBody (top 35), defScope (top 35), [], []⟩
abbrev d__law_draw : He.DefD := ⟨("_law_draw", none), "_law_draw", "_law_draw", defArgs (top 36), defBody (top 36), defScope (top 36), [], []⟩
abbrev d_Runs_least : He.DefD := ⟨("Runs", some "least"), "least", "Runs.least", defArgs (inClass (top 22) 1), defBody (inClass (top 22) 1), defScope (inClass (top 22) 1), [], []⟩
abbrev d_Runs_within : He.DefD := ⟨("Runs", some "within"), "within", "Runs.within", defArgs (inClass (top 22) 2), defBody (inClass (top 22) 2), defScope (inClass (top 22) 2), [], []⟩
abbrev d_Runs_fewest : He.DefD := ⟨("Runs", some "fewest"), "fewest", "Runs.fewest", defArgs (inClass (top 22) 6), defBody (inClass (top 22) 6), defScope (inClass (top 22) 6), [], []⟩
abbrev d_Runs_could_hold : He.DefD := ⟨("Runs", some "could_hold"), "could_hold", "Runs.could_hold", defArgs (inClass (top 22) 8), defBody (inClass (top 22) 8), defScope (inClass (top 22) 8), [], []⟩
abbrev d_is_integer : He.DefD := ⟨("is_integer", none), "is_integer", "is_integer", defArgs (top 6), defBody (top 6), defScope (top 6), [], []⟩
abbrev d_ranges_of : He.DefD := ⟨("ranges_of", none), "ranges_of", "ranges_of", defArgs (top 20), defBody (top 20), defScope (top 20), [], []⟩
abbrev d_check_bounds : He.DefD := ⟨("check_bounds", none), "check_bounds", "check_bounds", defArgs (top 15), defBody (top 15), defScope (top 15), [], []⟩
abbrev d_is_told : He.DefD := ⟨("is_told", none), "is_told", "is_told", defArgs (top 16), defBody (top 16), defScope (top 16), [], []⟩
abbrev d_fit_one_row : He.DefD := ⟨("fit_one_row", none), "fit_one_row", "fit_one_row", defArgs (top 21), defBody (top 21), defScope (top 21), [], []⟩
abbrev d_row_for : He.DefD := ⟨("row_for", none), "row_for", "row_for", defArgs (top 24), defBody (top 24), defScope (top 24), [], []⟩
abbrev d_is_full_entry : He.DefD := ⟨("is_full_entry", none), "is_full_entry", "is_full_entry", defArgs (top 28), defBody (top 28), defScope (top 28), [], []⟩
abbrev d_check_told : He.DefD := ⟨("check_told", none), "check_told", "check_told", defArgs (top 17), defBody (top 17), defScope (top 17), [], []⟩
abbrev d_is_full_table : He.DefD := ⟨("is_full_table", none), "is_full_table", "is_full_table", defArgs (top 29), defBody (top 29), defScope (top 29), [], []⟩
abbrev d_Runs_fits : He.DefD := ⟨("Runs", some "fits"), "fits", "Runs.fits", defArgs (inClass (top 22) 3), defBody (inClass (top 22) 3), defScope (inClass (top 22) 3), [], []⟩
abbrev d_unlike_games : He.DefD := ⟨("unlike_games", none), "unlike_games", "unlike_games", defArgs (top 26), defBody (top 26), defScope (top 26), [], []⟩
abbrev d_explains : He.DefD := ⟨("explains", none), "explains", "explains", defArgs (top 31), defBody (top 31), defScope (top 31), [], []⟩
abbrev d_Runs_firsts : He.DefD := ⟨("Runs", some "firsts"), "firsts", "Runs.firsts", defArgs (inClass (top 22) 4), defBody (inClass (top 22) 4), defScope (inClass (top 22) 4), [], []⟩
abbrev d_Runs_lasts : He.DefD := ⟨("Runs", some "lasts"), "lasts", "Runs.lasts", defArgs (inClass (top 22) 5), defBody (inClass (top 22) 5), defScope (inClass (top 22) 5), [], []⟩
abbrev d_Runs_is_row_of_fewest : He.DefD := ⟨("Runs", some "is_row_of_fewest"), "is_row_of_fewest", "Runs.is_row_of_fewest", defArgs (inClass (top 22) 7), defBody (inClass (top 22) 7), defScope (inClass (top 22) 7), [], []⟩
abbrev d_rows_for : He.DefD := ⟨("rows_for", none), "rows_for", "rows_for", defArgs (top 33), defBody (top 33), defScope (top 33), [], []⟩
abbrev d_Runs___init__ : He.DefD := ⟨("Runs", some "__init__"), "__init__", "Runs.__init__", defArgs (inClass (top 22) 0), defBody (inClass (top 22) 0), defScope (inClass (top 22) 0), [], []⟩
abbrev d_fewest_rows : He.DefD := ⟨("fewest_rows", none), "fewest_rows", "fewest_rows", defArgs (top 23), defBody (top 23), defScope (top 23), [], []⟩
abbrev d_told_table : He.DefD := ⟨("told_table", none), "told_table", "told_table", defArgs (top 25), defBody (top 25), defScope (top 25), [], []⟩
abbrev d_may_follow : He.DefD := ⟨("may_follow", none), "may_follow", "may_follow", defArgs (top 32), defBody (top 32), defScope (top 32), [], []⟩
abbrev d__law_call : He.DefD := ⟨("_law_call", none), "_law_call", "_law_call", defArgs (top 38), defBody (top 38), defScope (top 38), [], []⟩
abbrev d__law_told : He.DefD := ⟨("_law_told", none), "_law_told", "_law_told", defArgs (top 39), defBody (top 39), defScope (top 39), [], []⟩
abbrev d__law_far_right : He.DefD := ⟨("_law_far_right", none), "_law_far_right", "_law_far_right", defArgs (top 40), defBody (top 40), defScope (top 40), [], []⟩
abbrev d_law : He.DefD := ⟨("law", none), "law", "law", defArgs (top 41), defBody (top 41), defScope (top 41), [], []⟩
def fn : List He.DefD := [d_is_whole, d_is_result, d_bounds_of, d_common, d_sorted_pairs, d_cut, d__law_pool, d__law_draw, d_Runs_least, d_Runs_within, d_Runs_fewest, d_Runs_could_hold, d_is_integer, d_ranges_of, d_check_bounds, d_is_told, d_fit_one_row, d_row_for, d_is_full_entry, d_check_told, d_is_full_table, d_Runs_fits, d_unlike_games, d_explains, d_Runs_firsts, d_Runs_lasts, d_Runs_is_row_of_fewest, d_rows_for, d_Runs___init__, d_fewest_rows, d_told_table, d_may_follow, d__law_call, d__law_told, d__law_far_right, d_law]
def er : List ErD := [e_BadNumber, e_BadGame, e_BadTold]
def fa : List Chk := [(He.Fa.free "abs").ok,
  (He.Fa.free "all").ok,
  (He.Fa.free "any").ok,
  (He.Fa.free "bool").ok,
  (He.Fa.free "enumerate").ok,
  (He.Fa.free "int").ok,
  (He.Fa.free "isinstance").ok,
  (He.Fa.free "len").ok,
  (He.Fa.free "list").ok,
  (He.Fa.free "max").ok,
  (He.Fa.free "min").ok,
  (He.Fa.free "range").ok,
  (He.Fa.free "repr").ok,
  (He.Fa.free "sorted").ok,
  (He.Fa.free "str").ok,
  (He.Fa.free "tuple").ok,
  (He.Fa.free "zip").ok,
  (He.Fa.glo "is_whole").ok,
  (He.Fa.glo "is_result").ok,
  (He.Fa.glo "bounds_of").ok,
  (He.Fa.glo "common").ok,
  (He.Fa.glo "sorted_pairs").ok,
  (He.Fa.glo "cut").ok,
  (He.Fa.glo "_law_pool").ok,
  (He.Fa.glo "_law_draw").ok,
  (He.Fa.glo "is_integer").ok,
  (He.Fa.glo "ranges_of").ok,
  (He.Fa.glo "check_bounds").ok,
  (He.Fa.glo "is_told").ok,
  (He.Fa.glo "fit_one_row").ok,
  (He.Fa.glo "row_for").ok,
  (He.Fa.glo "is_full_entry").ok,
  (He.Fa.glo "check_told").ok,
  (He.Fa.glo "is_full_table").ok,
  (He.Fa.glo "unlike_games").ok,
  (He.Fa.glo "explains").ok,
  (He.Fa.glo "rows_for").ok,
  (He.Fa.glo "fewest_rows").ok,
  (He.Fa.glo "told_table").ok,
  (He.Fa.glo "may_follow").ok,
  (He.Fa.glo "_law_call").ok,
  (He.Fa.glo "_law_told").ok,
  (He.Fa.glo "_law_far_right").ok,
  (He.Fa.glo "law").ok,
  noList,
  (conB "MOST_CHANGE" k_MOST_CHANGE),
  (conB "MOST_RATING" k_MOST_RATING),
  (conB "OPEN" k_OPEN),
  (conB "RESULTS" k_RESULTS),
  (tupDB "RESULTS"),
  (He.Fa.glo "LadderError").ok,
  (He.Fa.glo "BadNumber").ok,
  (He.Fa.glo "BadGame").ok,
  (He.Fa.glo "BadTold").ok,
  (He.Fa.glo "Runs").ok,
  (fun K => erB P0.main.file "ValueError" "ValueError.__new__" "ValueError.__init__" He.veBase K e_BadNumber),
  (fun K => excB K (caK K 1)),
  (fun K => eqO (PySem.W.findIn K (.ref (caK K 1)) "number") (some none)),
  (fun K => erB P0.main.file "ValueError" "ValueError.__new__" "ValueError.__init__" He.veBase K e_BadGame),
  (fun K => excB K (caK K 4)),
  (fun K => eqO (PySem.W.findIn K (.ref (caK K 4)) "value") (some none)),
  (fun K => erB P0.main.file "ValueError" "ValueError.__new__" "ValueError.__init__" He.veBase K e_BadTold),
  (fun K => excB K (caK K 20)),
  (fun K => eqO (PySem.W.findIn K (.ref (caK K 20)) "index") (some none)),
  (fun K => decide (PySem.W.exmOne K (.ref (caK K 1)) (.ref (caK K 4)) = some false)),
  (fun K => decide (PySem.W.exmOne K (.ref (caK K 1)) (.ref (caK K 1)) = some true)),
  (fun K => decide (PySem.W.exmOne K (.ref (caK K 1)) (.ref (caK K 20)) = some false)),
  (fun K => decide (PySem.W.exmOne K (.ref (caK K 4)) (.ref (caK K 4)) = some true)),
  (fun K => decide (PySem.W.exmOne K (.ref (caK K 4)) (.ref (caK K 1)) = some false)),
  (fun K => decide (PySem.W.exmOne K (.ref (caK K 4)) (.ref (caK K 20)) = some false)),
  (fun K => decide (PySem.W.exmOne K (.ref (caK K 20)) (.ref (caK K 4)) = some false)),
  (fun K => decide (PySem.W.exmOne K (.ref (caK K 20)) (.ref (caK K 1)) = some false)),
  (fun K => decide (PySem.W.exmOne K (.ref (caK K 20)) (.ref (caK K 20)) = some true)),
  (fun K => ownB K (caK K 45)),
  (fun K => eqO (PySem.W.findIn K (.ref (caK K 45)) "ahead") (some none)),
  (fun K => eqO (PySem.W.findIn K (.ref (caK K 45)) "behind") (some none)),
  (fun K => eqO (PySem.W.findIn K (.ref (caK K 45)) "differences") (some none)),
  (fun K => eqO (PySem.W.findIn K (.ref (caK K 45)) "high") (some none)),
  (fun K => eqO (PySem.W.findIn K (.ref (caK K 45)) "low") (some none)),
  (fun K => eqO (PySem.W.findIn K (.ref (caK K 45)) "own_games") (some none)),
  (fun K => (He.Fa.meth "Runs" "could_hold").ok K),
  (fun K => (He.Fa.meth "Runs" "fewest").ok K),
  (fun K => (He.Fa.meth "Runs" "firsts").ok K),
  (fun K => (He.Fa.meth "Runs" "fits").ok K),
  (fun K => (He.Fa.meth "Runs" "is_row_of_fewest").ok K),
  (fun K => (He.Fa.meth "Runs" "lasts").ok K),
  (fun K => (He.Fa.meth "Runs" "least").ok K),
  (fun K => (He.Fa.meth "Runs" "within").ok K),
  (fun K => (He.Fa.mkr "Runs").ok K)]
theorem txt {K : PySem.W.Frag} {h : Heap} {mg : Str → Option Value} (X : K.In h) (G : h.Ns mainGlobals mg) (c : SaysL fa fn er K) : Txt P0 K mg where
  z_abs := He.free_ok X G (c.fact 0 (f := (He.Fa.free "abs").ok) rfl)
  z_all := He.free_ok X G (c.fact 1 (f := (He.Fa.free "all").ok) rfl)
  z_any := He.free_ok X G (c.fact 2 (f := (He.Fa.free "any").ok) rfl)
  z_bool := He.free_ok X G (c.fact 3 (f := (He.Fa.free "bool").ok) rfl)
  z_enumerate := He.free_ok X G (c.fact 4 (f := (He.Fa.free "enumerate").ok) rfl)
  z_int := He.free_ok X G (c.fact 5 (f := (He.Fa.free "int").ok) rfl)
  z_isinstance := He.free_ok X G (c.fact 6 (f := (He.Fa.free "isinstance").ok) rfl)
  z_len := He.free_ok X G (c.fact 7 (f := (He.Fa.free "len").ok) rfl)
  z_list := He.free_ok X G (c.fact 8 (f := (He.Fa.free "list").ok) rfl)
  z_max := He.free_ok X G (c.fact 9 (f := (He.Fa.free "max").ok) rfl)
  z_min := He.free_ok X G (c.fact 10 (f := (He.Fa.free "min").ok) rfl)
  z_range := He.free_ok X G (c.fact 11 (f := (He.Fa.free "range").ok) rfl)
  z_repr := He.free_ok X G (c.fact 12 (f := (He.Fa.free "repr").ok) rfl)
  z_sorted := He.free_ok X G (c.fact 13 (f := (He.Fa.free "sorted").ok) rfl)
  z_str := He.free_ok X G (c.fact 14 (f := (He.Fa.free "str").ok) rfl)
  z_tuple := He.free_ok X G (c.fact 15 (f := (He.Fa.free "tuple").ok) rfl)
  z_zip := He.free_ok X G (c.fact 16 (f := (He.Fa.free "zip").ok) rfl)
  F_is_whole := fun_of (d := d_is_whole) rfl (c.fn_ 0 rfl).1 (c.fn_ 0 rfl).2
  g_is_whole := He.glo_ok X G (c.fact 17 (f := (He.Fa.glo "is_whole").ok) rfl)
  F_is_result := fun_of (d := d_is_result) rfl (c.fn_ 1 rfl).1 (c.fn_ 1 rfl).2
  g_is_result := He.glo_ok X G (c.fact 18 (f := (He.Fa.glo "is_result").ok) rfl)
  F_bounds_of := fun_of (d := d_bounds_of) rfl (c.fn_ 2 rfl).1 (c.fn_ 2 rfl).2
  g_bounds_of := He.glo_ok X G (c.fact 19 (f := (He.Fa.glo "bounds_of").ok) rfl)
  F_common := fun_of (d := d_common) rfl (c.fn_ 3 rfl).1 (c.fn_ 3 rfl).2
  g_common := He.glo_ok X G (c.fact 20 (f := (He.Fa.glo "common").ok) rfl)
  F_sorted_pairs := fun_of (d := d_sorted_pairs) rfl (c.fn_ 4 rfl).1 (c.fn_ 4 rfl).2
  g_sorted_pairs := He.glo_ok X G (c.fact 21 (f := (He.Fa.glo "sorted_pairs").ok) rfl)
  F_cut := fun_of (d := d_cut) rfl (c.fn_ 5 rfl).1 (c.fn_ 5 rfl).2
  g_cut := He.glo_ok X G (c.fact 22 (f := (He.Fa.glo "cut").ok) rfl)
  F__law_pool := fun_of (d := d__law_pool) rfl (c.fn_ 6 rfl).1 (c.fn_ 6 rfl).2
  g__law_pool := He.glo_ok X G (c.fact 23 (f := (He.Fa.glo "_law_pool").ok) rfl)
  F__law_draw := fun_of (d := d__law_draw) rfl (c.fn_ 7 rfl).1 (c.fn_ 7 rfl).2
  g__law_draw := He.glo_ok X G (c.fact 24 (f := (He.Fa.glo "_law_draw").ok) rfl)
  F_Runs_least := fun_of (d := d_Runs_least) rfl (c.fn_ 8 rfl).1 (c.fn_ 8 rfl).2
  F_Runs_within := fun_of (d := d_Runs_within) rfl (c.fn_ 9 rfl).1 (c.fn_ 9 rfl).2
  F_Runs_fewest := fun_of (d := d_Runs_fewest) rfl (c.fn_ 10 rfl).1 (c.fn_ 10 rfl).2
  F_Runs_could_hold := fun_of (d := d_Runs_could_hold) rfl (c.fn_ 11 rfl).1 (c.fn_ 11 rfl).2
  F_is_integer := fun_of (d := d_is_integer) rfl (c.fn_ 12 rfl).1 (c.fn_ 12 rfl).2
  g_is_integer := He.glo_ok X G (c.fact 25 (f := (He.Fa.glo "is_integer").ok) rfl)
  F_ranges_of := fun_of (d := d_ranges_of) rfl (c.fn_ 13 rfl).1 (c.fn_ 13 rfl).2
  g_ranges_of := He.glo_ok X G (c.fact 26 (f := (He.Fa.glo "ranges_of").ok) rfl)
  F_check_bounds := fun_of (d := d_check_bounds) rfl (c.fn_ 14 rfl).1 (c.fn_ 14 rfl).2
  g_check_bounds := He.glo_ok X G (c.fact 27 (f := (He.Fa.glo "check_bounds").ok) rfl)
  F_is_told := fun_of (d := d_is_told) rfl (c.fn_ 15 rfl).1 (c.fn_ 15 rfl).2
  g_is_told := He.glo_ok X G (c.fact 28 (f := (He.Fa.glo "is_told").ok) rfl)
  F_fit_one_row := fun_of (d := d_fit_one_row) rfl (c.fn_ 16 rfl).1 (c.fn_ 16 rfl).2
  g_fit_one_row := He.glo_ok X G (c.fact 29 (f := (He.Fa.glo "fit_one_row").ok) rfl)
  F_row_for := fun_of (d := d_row_for) rfl (c.fn_ 17 rfl).1 (c.fn_ 17 rfl).2
  g_row_for := He.glo_ok X G (c.fact 30 (f := (He.Fa.glo "row_for").ok) rfl)
  F_is_full_entry := fun_of (d := d_is_full_entry) rfl (c.fn_ 18 rfl).1 (c.fn_ 18 rfl).2
  g_is_full_entry := He.glo_ok X G (c.fact 31 (f := (He.Fa.glo "is_full_entry").ok) rfl)
  F_check_told := fun_of (d := d_check_told) rfl (c.fn_ 19 rfl).1 (c.fn_ 19 rfl).2
  g_check_told := He.glo_ok X G (c.fact 32 (f := (He.Fa.glo "check_told").ok) rfl)
  F_is_full_table := fun_of (d := d_is_full_table) rfl (c.fn_ 20 rfl).1 (c.fn_ 20 rfl).2
  g_is_full_table := He.glo_ok X G (c.fact 33 (f := (He.Fa.glo "is_full_table").ok) rfl)
  F_Runs_fits := fun_of (d := d_Runs_fits) rfl (c.fn_ 21 rfl).1 (c.fn_ 21 rfl).2
  F_unlike_games := fun_of (d := d_unlike_games) rfl (c.fn_ 22 rfl).1 (c.fn_ 22 rfl).2
  g_unlike_games := He.glo_ok X G (c.fact 34 (f := (He.Fa.glo "unlike_games").ok) rfl)
  F_explains := fun_of (d := d_explains) rfl (c.fn_ 23 rfl).1 (c.fn_ 23 rfl).2
  g_explains := He.glo_ok X G (c.fact 35 (f := (He.Fa.glo "explains").ok) rfl)
  F_Runs_firsts := fun_of (d := d_Runs_firsts) rfl (c.fn_ 24 rfl).1 (c.fn_ 24 rfl).2
  F_Runs_lasts := fun_of (d := d_Runs_lasts) rfl (c.fn_ 25 rfl).1 (c.fn_ 25 rfl).2
  F_Runs_is_row_of_fewest := fun_of (d := d_Runs_is_row_of_fewest) rfl (c.fn_ 26 rfl).1 (c.fn_ 26 rfl).2
  F_rows_for := fun_of (d := d_rows_for) rfl (c.fn_ 27 rfl).1 (c.fn_ 27 rfl).2
  g_rows_for := He.glo_ok X G (c.fact 36 (f := (He.Fa.glo "rows_for").ok) rfl)
  F_Runs___init__ := fun_of (d := d_Runs___init__) rfl (c.fn_ 28 rfl).1 (c.fn_ 28 rfl).2
  F_fewest_rows := fun_of (d := d_fewest_rows) rfl (c.fn_ 29 rfl).1 (c.fn_ 29 rfl).2
  g_fewest_rows := He.glo_ok X G (c.fact 37 (f := (He.Fa.glo "fewest_rows").ok) rfl)
  F_told_table := fun_of (d := d_told_table) rfl (c.fn_ 30 rfl).1 (c.fn_ 30 rfl).2
  g_told_table := He.glo_ok X G (c.fact 38 (f := (He.Fa.glo "told_table").ok) rfl)
  F_may_follow := fun_of (d := d_may_follow) rfl (c.fn_ 31 rfl).1 (c.fn_ 31 rfl).2
  g_may_follow := He.glo_ok X G (c.fact 39 (f := (He.Fa.glo "may_follow").ok) rfl)
  F__law_call := fun_of (d := d__law_call) rfl (c.fn_ 32 rfl).1 (c.fn_ 32 rfl).2
  g__law_call := He.glo_ok X G (c.fact 40 (f := (He.Fa.glo "_law_call").ok) rfl)
  F__law_told := fun_of (d := d__law_told) rfl (c.fn_ 33 rfl).1 (c.fn_ 33 rfl).2
  g__law_told := He.glo_ok X G (c.fact 41 (f := (He.Fa.glo "_law_told").ok) rfl)
  F__law_far_right := fun_of (d := d__law_far_right) rfl (c.fn_ 34 rfl).1 (c.fn_ 34 rfl).2
  g__law_far_right := He.glo_ok X G (c.fact 42 (f := (He.Fa.glo "_law_far_right").ok) rfl)
  F_law := fun_of (d := d_law) rfl (c.fn_ 35 rfl).1 (c.fn_ 35 rfl).2
  g_law := He.glo_ok X G (c.fact 43 (f := (He.Fa.glo "law").ok) rfl)
  nl := c.fact 44 (f := noList) rfl
  con_MOST_CHANGE := conB_ok X G (c.fact 45 (f := (conB "MOST_CHANGE" k_MOST_CHANGE)) rfl)
  con_MOST_RATING := conB_ok X G (c.fact 46 (f := (conB "MOST_RATING" k_MOST_RATING)) rfl)
  con_OPEN := conB_ok X G (c.fact 47 (f := (conB "OPEN" k_OPEN)) rfl)
  con_RESULTS := conB_ok X G (c.fact 48 (f := (conB "RESULTS" k_RESULTS)) rfl)
  td_RESULTS := tupDB_ok X G (c.fact 49 (f := (tupDB "RESULTS")) rfl)
  g_LadderError := He.glo_ok X G (c.fact 50 (f := (He.Fa.glo "LadderError").ok) rfl)
  g_BadNumber := He.glo_ok X G (c.fact 51 (f := (He.Fa.glo "BadNumber").ok) rfl)
  g_BadGame := He.glo_ok X G (c.fact 52 (f := (He.Fa.glo "BadGame").ok) rfl)
  g_BadTold := He.glo_ok X G (c.fact 53 (f := (He.Fa.glo "BadTold").ok) rfl)
  g_Runs := He.glo_ok X G (c.fact 54 (f := (He.Fa.glo "Runs").ok) rfl)
  er_BadNumber := ErD.txt PySem.W.kxs_ValueError PySem.F.excBase_ValueError PySem.F.store_ValueError ini_BadNumber (fun _ _ _ _ _ _ _ _ _ => rfl) (by decide +kernel) (c.er_ 0 rfl) (c.fact 55 (f := (fun K => erB P0.main.file "ValueError" "ValueError.__new__" "ValueError.__init__" He.veBase K e_BadNumber)) rfl)
  xf_1 := excB_ok (c.fact 56 (f := (fun K => excB K (caK K 1))) rfl)
  no_1 := eqO_ok (c.fact 57 (f := (fun K => eqO (PySem.W.findIn K (.ref (caK K 1)) "number") (some none))) rfl)
  er_BadGame := ErD.txt PySem.W.kxs_ValueError PySem.F.excBase_ValueError PySem.F.store_ValueError ini_BadGame (fun _ _ _ _ _ _ _ _ _ => rfl) (by decide +kernel) (c.er_ 1 rfl) (c.fact 58 (f := (fun K => erB P0.main.file "ValueError" "ValueError.__new__" "ValueError.__init__" He.veBase K e_BadGame)) rfl)
  xf_4 := excB_ok (c.fact 59 (f := (fun K => excB K (caK K 4))) rfl)
  no_4 := eqO_ok (c.fact 60 (f := (fun K => eqO (PySem.W.findIn K (.ref (caK K 4)) "value") (some none))) rfl)
  er_BadTold := ErD.txt PySem.W.kxs_ValueError PySem.F.excBase_ValueError PySem.F.store_ValueError ini_BadTold (fun _ _ _ _ _ _ _ _ _ => rfl) (by decide +kernel) (c.er_ 2 rfl) (c.fact 61 (f := (fun K => erB P0.main.file "ValueError" "ValueError.__new__" "ValueError.__init__" He.veBase K e_BadTold)) rfl)
  xf_20 := excB_ok (c.fact 62 (f := (fun K => excB K (caK K 20))) rfl)
  no_20 := eqO_ok (c.fact 63 (f := (fun K => eqO (PySem.W.findIn K (.ref (caK K 20)) "index") (some none))) rfl)
  exm_1_BadGame := of_decide_eq_true (c.fact 64 (f := (fun K => decide (PySem.W.exmOne K (.ref (caK K 1)) (.ref (caK K 4)) = some false))) rfl)
  exm_1_BadNumber := of_decide_eq_true (c.fact 65 (f := (fun K => decide (PySem.W.exmOne K (.ref (caK K 1)) (.ref (caK K 1)) = some true))) rfl)
  exm_1_BadTold := of_decide_eq_true (c.fact 66 (f := (fun K => decide (PySem.W.exmOne K (.ref (caK K 1)) (.ref (caK K 20)) = some false))) rfl)
  exm_4_BadGame := of_decide_eq_true (c.fact 67 (f := (fun K => decide (PySem.W.exmOne K (.ref (caK K 4)) (.ref (caK K 4)) = some true))) rfl)
  exm_4_BadNumber := of_decide_eq_true (c.fact 68 (f := (fun K => decide (PySem.W.exmOne K (.ref (caK K 4)) (.ref (caK K 1)) = some false))) rfl)
  exm_4_BadTold := of_decide_eq_true (c.fact 69 (f := (fun K => decide (PySem.W.exmOne K (.ref (caK K 4)) (.ref (caK K 20)) = some false))) rfl)
  exm_20_BadGame := of_decide_eq_true (c.fact 70 (f := (fun K => decide (PySem.W.exmOne K (.ref (caK K 20)) (.ref (caK K 4)) = some false))) rfl)
  exm_20_BadNumber := of_decide_eq_true (c.fact 71 (f := (fun K => decide (PySem.W.exmOne K (.ref (caK K 20)) (.ref (caK K 1)) = some false))) rfl)
  exm_20_BadTold := of_decide_eq_true (c.fact 72 (f := (fun K => decide (PySem.W.exmOne K (.ref (caK K 20)) (.ref (caK K 20)) = some true))) rfl)
  own_Runs := ownB_ok (c.fact 73 (f := (fun K => ownB K (caK K 45))) rfl)
  na_Runs_ahead := eqO_ok (c.fact 74 (f := (fun K => eqO (PySem.W.findIn K (.ref (caK K 45)) "ahead") (some none))) rfl)
  na_Runs_behind := eqO_ok (c.fact 75 (f := (fun K => eqO (PySem.W.findIn K (.ref (caK K 45)) "behind") (some none))) rfl)
  na_Runs_differences := eqO_ok (c.fact 76 (f := (fun K => eqO (PySem.W.findIn K (.ref (caK K 45)) "differences") (some none))) rfl)
  na_Runs_high := eqO_ok (c.fact 77 (f := (fun K => eqO (PySem.W.findIn K (.ref (caK K 45)) "high") (some none))) rfl)
  na_Runs_low := eqO_ok (c.fact 78 (f := (fun K => eqO (PySem.W.findIn K (.ref (caK K 45)) "low") (some none))) rfl)
  na_Runs_own_games := eqO_ok (c.fact 79 (f := (fun K => eqO (PySem.W.findIn K (.ref (caK K 45)) "own_games") (some none))) rfl)
  me_Runs_could_hold := He.meth_ok (c.fact 80 (f := (fun K => (He.Fa.meth "Runs" "could_hold").ok K)) rfl)
  me_Runs_fewest := He.meth_ok (c.fact 81 (f := (fun K => (He.Fa.meth "Runs" "fewest").ok K)) rfl)
  me_Runs_firsts := He.meth_ok (c.fact 82 (f := (fun K => (He.Fa.meth "Runs" "firsts").ok K)) rfl)
  me_Runs_fits := He.meth_ok (c.fact 83 (f := (fun K => (He.Fa.meth "Runs" "fits").ok K)) rfl)
  me_Runs_is_row_of_fewest := He.meth_ok (c.fact 84 (f := (fun K => (He.Fa.meth "Runs" "is_row_of_fewest").ok K)) rfl)
  me_Runs_lasts := He.meth_ok (c.fact 85 (f := (fun K => (He.Fa.meth "Runs" "lasts").ok K)) rfl)
  me_Runs_least := He.meth_ok (c.fact 86 (f := (fun K => (He.Fa.meth "Runs" "least").ok K)) rfl)
  me_Runs_within := He.meth_ok (c.fact 87 (f := (fun K => (He.Fa.meth "Runs" "within").ok K)) rfl)
  mk_Runs := He.mkr_ok (c.fact 88 (f := (fun K => (He.Fa.mkr "Runs").ok K)) rfl)
abbrev R : PySem.W.OpenRow := PySem.W.OpenLaw.row PySem.Challenge.rw_liftedladders_k78_told_refused
abbrev hk : PySem.W.Hook := hookL 7 fa fn er
def ob (s : PySem.W.SharedT) : AlL := obsLG 7 fa fn er (HandSHeadRun.getT s)
theorem ob_eq (s : PySem.W.SharedT) : ob s = hk.obs s.abs := obsLG_eq (HandSHeadRun.getT_eq s)
def loose : List Str := (["is_integer", "is_whole", "is_result", "check_bounds", "is_told", "check_told", "bounds_of", "common", "ranges_of", "fit_one_row", "fewest_rows", "row_for", "told_table", "unlike_games", "sorted_pairs", "is_full_entry", "is_full_table", "cut", "explains", "may_follow", "rows_for", "_law_pool", "_law_draw", "_law_pick", "_law_call", "_law_told", "_law_far_right", "LadderError", "BadNumber", "BadGame"] : List Str) ++ (["BadTold", "Runs", "RESULTS", "MOST_RATING", "MOST_CHANGE", "OPEN"] : List Str)
theorem run (w : World) : HandSHeadRun.RunEq R (PySem.W.view R.prog [41]) hk ob 8000 loose w := by
  intro os
  kernel_rfl
end K78
open PySem PySem.W PySem.Calls PyProof.Rows in
theorem K78.holds_of (p : K78.Plain) : PySem.Challenge.rw_liftedladders_k78_told_refused.Holds := by
  w_on; o_law
  refine HandSHeadRun.head_any (r := OpenLaw.row PySem.Challenge.rw_liftedladders_k78_told_refused) (q := view (OpenLaw.row PySem.Challenge.rw_liftedladders_k78_told_refused).prog [41]) (H := K78.hk) (ob := K78.ob) (M := 8000) (loose := K78.loose) (d := HandSHeadRun.topDef (OpenLaw.row PySem.Challenge.rw_liftedladders_k78_told_refused).prog 41) (kwd := []) K78.ob_eq
    (by kernel_rfl) (fun s => by kernel_rfl) K78.run (by kernel_rfl) (by kernel_rfl) (by kernel_rfl) (by rfl) (by first | assumption | decide +kernel) (by decide +kernel) ⟨rfl, rfl, rfl, rfl, rfl, by decide +kernel⟩ ?hw ?hc
  case hw => w_witness2
  case hc =>
    refine Lad.walk_G (l := PySem.Challenge.rw_liftedladders_k78_told_refused) (n := 63) (k := 12) (x := "_law_script") rfl (by decide) (by kernel_rfl) ⟨rfl, by decide, by decide⟩ ?F
    intro w mg fa h Y G hmg0
    obtain ⟨K, KX, c⟩ := Y
    have hmg : mg ("law" : PySem.Str) = some (.ref fa) := by
      have e : (HandSHeadRun.topDef (OpenLaw.row PySem.Challenge.rw_liftedladders_k78_told_refused).prog 41).name = ("law" : PySem.Str) := by kernel_rfl
      rw [← e]
      exact hmg0
    have t := K78.txt KX G c
    have e := hmg.symm.trans t.g_law
    cases e
    refine ⟨K, Lad.fdOf K (He.ga K "law"), _, t.nl, KX, ?_, fun H a ns hl hO hS => Lad.sp_law (S := ⟨K, (K78.TT K).ca, (K78.TT K).nm, (K78.TT K).fld, (K78.TT K).ex⟩) t.nl p hl hO hS, fun base _ _ => K78.ok_law t⟩
    obtain ⟨oc, od, kV, doc, pm, an, cdv, ct, osl, e, lk, hcd⟩ := t.F_law.ex
    rw [e]
    exact fun s u => BindsTo.of_eq rfl
end
/-! ## LadPl -/
section
set_option maxRecDepth 10000
namespace Lad
open PySem L2
/-! ### equations for running evaluators by hand -/
section
variable (f g f1 f2 f3 : En → Hea → Res Val) (s s1 s2 : En → Hea → SRes) (l l2 : En → Hea → Res (List Val)) (e : En) (h : Hea)
@[simp] theorem ap_seq : sSeq s1 s2 e h = match s1 e h with | .nx e1 h1 => s2 e1 h1 | r => r := rfl
@[simp] theorem ap_nil : sNil e h = .nx e h := rfl
@[simp] theorem ap_set (i) : sSet i f e h = ofR (f e h) e fun d h1 => .nx (e.set i (some d)) h1 := rfl
@[simp] theorem ap_ret : sRet f e h = ofR (f e h) e fun d h1 => .rt d h1 := rfl
@[simp] theorem ap_retN : sRetN e h = .rt .non h := rfl
@[simp] theorem ap_ex : sEx f e h = ofR (f e h) e fun _ h1 => .nx e h1 := rfl
@[simp] theorem ap_if : sIf f s1 s2 e h = ofR (f e h) e fun d h1 => match d with | .bl true => s1 e h1 | .bl false => s2 e h1 | _ => .stuck := rfl
@[simp] theorem ap_par (is) : sPar is l e h = ofR (l e h) e fun ds h1 => match setAll is ds e with | some e1 => .nx e1 h1 | none => .stuck := rfl
@[simp] theorem ap_asg (b) : sAsg b f e h = ofR (f e h) e fun d h1 => match b d e with | some e1 => .nx e1 h1 | none => .stuck := rfl
@[simp] theorem ap_gT (is xs) : gT is (.tup xs) e = setAll is xs e := rfl
@[simp] theorem ap_gN (i v) : gN i v e = some (e.set i (some v)) := rfl
@[simp] theorem ap_all0 : setAll [] [] e = some e := rfl
@[simp] theorem ap_all1 (i is v vs) : setAll (i :: is) (v :: vs) e = setAll is vs (e.set i (some v)) := rfl
@[simp] theorem ap_ofOk {α : Type} (a : α) (k : α → Hea → SRes) : ofR (.ok a h) e k = k a h := rfl
@[simp] theorem ap_ofExc {α : Type} (c d) (k : α → Hea → SRes) : ofR (.exc c d h) e k = .exc c d e h := rfl
@[simp] theorem ap_bindOk {α β : Type} (a : α) (k : α → Hea → Res β) : (Res.ok a h).bind k = k a h := rfl
@[simp] theorem ap_bindExc {α β : Type} (c d) (k : α → Hea → Res β) : (Res.exc c d h : Res α).bind k = .exc c d h := rfl
@[simp] theorem ap_var (i) : eVar i e h = match e[i]? with | some (some d) => .ok d h | _ => .stuck := rfl
@[simp] theorem ap_c (d) : eC d e h = .ok d h := rfl
@[simp] theorem ap_bin (o) : eBin o f1 f2 e h = (f1 e h).bind fun x h1 => (f2 e h1).bind fun y h2 => opt (o h2 x y) h2 := rfl
@[simp] theorem ap_un (o) : eUn o f e h = (f e h).bind fun x h1 => opt (o h1 x) h1 := rfl
@[simp] theorem ap_and : eAnd f1 f2 e h = (f1 e h).bind fun x h1 => match x with | .bl true => f2 e h1 | .bl false => .ok (.bl false) h1 | _ => .stuck := rfl
@[simp] theorem ap_or : eOr f1 f2 e h = (f1 e h).bind fun x h1 => match x with | .bl true => .ok (.bl true) h1 | .bl false => f2 e h1 | _ => .stuck := rfl
@[simp] theorem ap_eif : eIf f1 f2 f3 e h = (f1 e h).bind fun x h1 => match x with | .bl true => f2 e h1 | .bl false => f3 e h1 | _ => .stuck := rfl
@[simp] theorem ap_anil : aNil e h = .ok [] h := rfl
@[simp] theorem ap_acons : aCons f l e h = (f e h).bind fun x h1 => (l e h1).bind fun xs h2 => .ok (x :: xs) h2 := rfl
@[simp] theorem ap_cb (o) : eCB o l e h = (l e h).bind fun ds h1 => opt (o h1 ds) h1 := rfl
@[simp] theorem ap_call (cf) : eCall cf l e h = (l e h).bind cf := rfl
@[simp] theorem ap_it (o) : eIt o f e h = (f e h).bind fun d h1 => match itemsOf h1 d with | some xs => opt (o xs) h1 | none => .stuck := rfl
@[simp] theorem ap_itL (o) : eItL o l e h = (l e h).bind fun xs h1 => opt (o xs) h1 := rfl
@[simp] theorem ap_tup : eTup l e h = (l e h).bind fun xs h1 => if xs.length ≤ 16777216 then .ok (.tup xs) h1 else .stuck := rfl
@[simp] theorem ap_disp : lDisp l e h = (l e h).bind fun xs h1 => if xs.length ≤ 16777216 then .ok xs h1 else .stuck := rfl
@[simp] theorem ap_new : eNew l e h = (l e h).bind fun xs h1 => .ok (.ref h1.length) (h1 ++ [.lst xs]) := rfl
@[simp] theorem ap_chain (o o') : eChain o o' f1 f2 f3 e h = (f1 e h).bind fun x h1 => (f2 e h1).bind fun y h2 => match o h2 x y with | some (.bl true) => (f3 e h2).bind fun z h3 => opt (o' h3 y z) h3 | some (.bl false) => .ok (.bl false) h2 | _ => .stuck := rfl
@[simp] theorem ap_optS (d) : opt (some d) h = .ok d h := rfl
@[simp] theorem ap_raise (c) : sRaise c f e h = ofR (f e h) e fun d h1 => .exc c d e h1 := rfl
@[simp] theorem ap_yes : eYes e h = .ok (.bl true) h := rfl
@[simp] theorem ap_noX {α : Type} (a : α) : noX (.ok a h) = .ok a h := rfl
/-! operators -/
@[simp] theorem op_add (a b) : oAdd h (.int a) (.int b) = some (.int (a + b)) := rfl
@[simp] theorem op_sub (a b) : oSub h (.int a) (.int b) = some (.int (a - b)) := rfl
@[simp] theorem op_mul (a b) : oMul h (.int a) (.int b) = if mulOk a b = true then some (.int (a * b)) else none := rfl
@[simp] theorem op_div (a b) : oDiv h (.int a) (.int b) = if b ≠ 0 ∧ b.natAbs.log2 < 9000 then some (.int (a.fdiv b)) else none := rfl
@[simp] theorem op_mod (a b) : oMod h (.int a) (.int b) = if b ≠ 0 then some (.int (a.fmod b)) else none := rfl
@[simp] theorem op_neg (a) : oNeg h (.int a) = some (.int (-a)) := rfl
@[simp] theorem op_lt (a b) : oLt h (.int a) (.int b) = some (.bl (decide (a < b))) := rfl
@[simp] theorem op_le (a b) : oLe h (.int a) (.int b) = some (.bl (decide (a ≤ b))) := rfl
@[simp] theorem op_gt (a b) : oGt h (.int a) (.int b) = some (.bl (decide (b < a))) := rfl
@[simp] theorem op_ge (a b) : oGe h (.int a) (.int b) = some (.bl (decide (b ≤ a))) := rfl
@[simp] theorem op_not (b) : oNot h (.bl b) = some (.bl (!b)) := rfl
@[simp] theorem op_isb (a b) : oIs h (.bl a) (.bl b) = some (.bl (decide (a = b))) := rfl
@[simp] theorem op_isnb (a b) : oIsNot h (.bl a) (.bl b) = some (.bl (!decide (a = b))) := rfl
@[simp] theorem g_abs' (a) : gAbs h [.int a] = some (.int (a.natAbs : Int)) := by
  show some (Val.int (if a < 0 then -a else a)) = _
  congr 2
  split <;> omega
@[simp] theorem g_int' (a) : gInt h [.int a] = some (.int a) := rfl
@[simp] theorem g_intb (a) : gInt h [.bl a] = some (.int (if a then 1 else 0)) := rfl
@[simp] theorem g_len' (xs) : gLen xs = some (.int xs.length) := rfl
@[simp] theorem it_tup (xs) : itemsOf h (.tup xs) = some xs := rfl
@[simp] theorem it_ref (i) : itemsOf h (.ref i) = lstAt h i := rfl
theorem bl_beq (a b : Bool) : PyData.eqv (.bool a) (.bool b) = (a == b) := by unfold PyData.eqv; rfl
@[simp] theorem eq_int (a b : Int) : eqB h (.int a) (.int b) = some (decide (a = b)) := by
  unfold eqB
  simp only [toD]
  rw [if_pos ⟨rfl, rfl⟩]
  simp [PyData.eqv]
  rfl
@[simp] theorem eq_bl (a b : Bool) : eqB h (.bl a) (.bl b) = some (decide (a = b)) := by
  unfold eqB
  simp only [toD]
  rw [if_pos ⟨rfl, rfl⟩]
  cases a <;> cases b <;> rfl
@[simp] theorem eq_tup2 (a b c d : Int) : eqB h (.tup [.int a, .int b]) (.tup [.int c, .int d]) = some (decide (a = c ∧ b = d)) := by
  unfold eqB
  simp only [toD, mapO]
  rw [if_pos ⟨rfl, rfl⟩]
  simp only [PyData.eqv, PyData.eqvAll, Bool.and_true]
  by_cases h1 : a = c <;> by_cases h2 : b = d <;> simp [h1, h2]
@[simp] theorem op_eq (a b) : oEq h a b = (eqB h a b).map .bl := rfl
@[simp] theorem op_ne (a b) : oNe h a b = (eqB h a b).map fun c => .bl (!c) := rfl
@[simp] theorem op_ix0 (a b : Val) : oIx h (.tup [a, b]) (.int 0) = some a := rfl
@[simp] theorem op_ix1 (a b : Val) : oIx h (.tup [a, b]) (.int 1) = some b := rfl
end
/-! ### sizes -/
theorem log2_lt {i : Int} {k : Nat} (h : i.natAbs < 2 ^ k) (hk : 0 < k) : i.natAbs.log2 < k := by
  by_cases hz : i.natAbs = 0
  · rw [hz]; simpa using hk
  · exact (Nat.log2_lt hz).mpr h
theorem mulOk_of {i j : Int} (h1 : i.natAbs < 2 ^ 400000) (h2 : j.natAbs < 2 ^ 400000) : mulOk i j = true := by
  unfold mulOk
  have a := log2_lt h1 (by decide)
  have b := log2_lt h2 (by decide)
  rw [Bool.or_eq_true]
  right
  exact decide_eq_true (by omega)
theorem mulOk_l {i j : Int} (h : i.natAbs < 2 ^ 64) : mulOk i j = true := by
  unfold mulOk
  rw [Bool.or_eq_true]
  left
  exact decide_eq_true (.inl (by omega))
theorem mulOk_r {i j : Int} (h : j.natAbs < 2 ^ 64) : mulOk i j = true := by
  unfold mulOk
  rw [Bool.or_eq_true]
  left
  exact decide_eq_true (.inr (by omega))
/-! ### ends of calls -/
@[simp] theorem fin_same (h : Hea) (d : Val) : fin h d h = .ok d h := by unfold fin; rw [if_pos rfl]
@[simp] theorem finK_same (h : Hea) (d : Val) : finK h d h = .ok d h := by unfold finK; rw [if_pos rfl]
theorem fin_len {h h' : Hea} {d : Val} (hl : h'.length = h.length) : fin h d h' = .ok d h' := by unfold fin; rw [if_pos hl]
theorem run_rt {fn : Hea → Val → Hea → Res Val} {np ns : Nat} {b : En → Hea → SRes} {ds : List Val} {h h' : Hea} {d : Val} (hl : ds.length = np) (e : b (startE ns ds) h = .rt d h') : runG fn np ns b ds h = fn h d h' := by unfold runG; rw [if_pos hl, e]
theorem run_nx {fn : Hea → Val → Hea → Res Val} {np ns : Nat} {b : En → Hea → SRes} {ds : List Val} {h h' : Hea} {e' : En} (hl : ds.length = np) (e : b (startE ns ds) h = .nx e' h') : runG fn np ns b ds h = fn h .non h' := by unfold runG; rw [if_pos hl, e]
theorem run_exc {fn : Hea → Val → Hea → Res Val} {np ns c : Nat} {b : En → Hea → SRes} {ds : List Val} {h : Hea} {e' : En} {d : Val} (hl : ds.length = np) (e : b (startE ns ds) h = .exc c d e' h) : runG fn np ns b ds h = .exc c d h := by
  unfold runG
  rw [if_pos hl, e]
  simp
/-! ### statements, one behind the other -/
section
variable {f : En → Hea → Res Val} {l : En → Hea → Res (List Val)} {s s1 s2 : En → Hea → SRes} {e e1 : En} {h h1 : Hea} {d : Val} {ds : List Val} {r : SRes}
theorem seq_nx (a : s1 e h = .nx e1 h1) (b : s2 e1 h1 = r) : sSeq s1 s2 e h = r := by simp [a, b]
theorem seq_if_no (a : f e h = .ok (.bl false) h1) (b : s2 e h1 = r) : sSeq (sIf f s1 sNil) s2 e h = r := by simp [a, b]
theorem if_no (a : f e h = .ok (.bl false) h1) : sIf f s1 sNil e h = .nx e h1 := by simp [a]
theorem if_yes (a : f e h = .ok (.bl true) h1) (b : s1 e h1 = r) : sIf f s1 s2 e h = r := by simp [a, b]
theorem seq_set {i : Nat} (a : f e h = .ok d h1) (b : s2 (e.set i (some d)) h1 = r) : sSeq (sSet i f) s2 e h = r := by simp [a, b]
theorem ret_ok (a : f e h = .ok d h1) : sRet f e h = .rt d h1 := by simp [a]
end
/-! ### loops over lists that stand -/
section
variable {src : En → Hea → Res Src} {b : Val → En → Option En} {body : En → Hea → SRes} {e : En} {h h1 : Hea} {xs : List Val} {dead : List Nat}
theorem for_eq (a : src e h = .ok (srcFix xs) h1) : sFor src b body e h = forL b body xs e h1 := by
  unfold sFor
  rw [a]
  rfl
theorem forK_eq (a : src e h = .ok (srcFix xs) h1) : sForK dead src b body e h = forKL (gcN dead h1.length) b body xs e h1 := by
  unfold sForK
  rw [a]
  rfl
/-- each turn ends as it began -/
theorem forKL_const {gc : En → Hea → En × Hea} (w : ∀ v ∈ xs, ∃ e1 e2 h2, b v e = some e1 ∧ body e1 h = .nx e2 h2 ∧ gc e2 h2 = (e, h)) : forKL gc b body xs e h = .nx e h := by
  induction xs with
  | nil => rfl
  | cons v vs ih =>
    obtain ⟨e1, e2, h2, a1, a2, a3⟩ := w v List.mem_cons_self
    unfold forKL
    simp only [a1, a2, a3]
    exact ih fun u hu => w u (List.mem_cons_of_mem _ hu)
/-- an invariant -/
theorem forL_all {I : En → Hea → Prop} : ∀ {xs : List Val} (w : ∀ v ∈ xs, ∀ e h, I e h → ∃ e1 e2 h2, b v e = some e1 ∧ body e1 h = .nx e2 h2 ∧ I e2 h2) (e : En) (h : Hea), I e h → ∃ e2 h2, forL b body xs e h = .nx e2 h2 ∧ I e2 h2
  | [], _, e, h, i => ⟨e, h, rfl, i⟩
  | v :: vs, w, e, h, i => by
    obtain ⟨e1, e2, h2, a1, a2, i2⟩ := w v List.mem_cons_self e h i
    obtain ⟨e3, h3, a3, i3⟩ := forL_all (fun u hu => w u (List.mem_cons_of_mem _ hu)) e2 h2 i2
    refine ⟨e3, h3, ?_, i3⟩
    unfold forL
    simp only [a1, a2]
    exact a3
/-- the turns one by one -/
theorem forL_fold {F : En → Val → En} {I : En → Prop} : ∀ {xs : List Val} (w : ∀ v ∈ xs, ∀ e, I e → I (F e v) ∧ ∃ e1, b v e = some e1 ∧ body e1 h = .nx (F e v) h) (e : En), I e → forL b body xs e h = .nx (xs.foldl F e) h
  | [], _, e, i => rfl
  | v :: vs, w, e, i => by
    obtain ⟨i2, e1, a1, a2⟩ := w v List.mem_cons_self e i
    unfold forL
    simp only [a1, a2]
    exact forL_fold (fun u hu => w u (List.mem_cons_of_mem _ hu)) _ i2
end
/-! ### comprehensions over lists that stand -/
section
variable {own : List Nat} {src : En → Hea → Res Src} {b : Val → En → Option En} {tt f : En → Hea → Res Val} {e : En} {h h1 : Hea} {xs : List Val}
theorem comp_eq (a : src e h = .ok (srcFix xs) h1) (hz : xs.length ≤ 16777216) : lComp own src b tt f e h = compL b tt f (wipeE e own) xs h1 := by
  unfold lComp
  rw [a]
  show runComp (srcFix xs) b tt f (wipeE e own) h1 = _
  unfold runComp
  exact if_pos hz
/-- test and item tell values and leave the heap -/
theorem compL_pure {p : Val → Bool} {y : Val → Val} {e0 : En} : ∀ {xs : List Val} (w : ∀ v ∈ xs, ∃ e1, b v e0 = some e1 ∧ tt e1 h = .ok (.bl (p v)) h ∧ (p v = true → f e1 h = .ok (y v) h)), compL b tt f e0 xs h = .ok ((xs.filter p).map y) h
  | [], _ => rfl
  | v :: vs, w => by
    obtain ⟨e1, a1, a2, a3⟩ := w v List.mem_cons_self
    have ih := compL_pure (xs := vs) fun u hu => w u (List.mem_cons_of_mem _ hu)
    unfold compL
    simp only [a1, a2, ap_noX, ap_bindOk]
    cases hp : p v with
    | true => simp [a3 hp, ih, List.filter_cons, hp]
    | false => simp [ih, List.filter_cons, hp]
end
section
variable {f f1 f2 f3 : En → Hea → Res Val} {l : En → Hea → Res (List Val)} {e : En} {h h1 h2 : Hea} {r : Res Val} {d d2 d3 : Val} {ds : List Val}
theorem or_no (a : f1 e h = .ok (.bl false) h1) (b : f2 e h1 = r) : eOr f1 f2 e h = r := by simp only [ap_or, a, ap_bindOk]; exact b
theorem or_yes (a : f1 e h = .ok (.bl true) h1) : eOr f1 f2 e h = .ok (.bl true) h1 := by simp only [ap_or, a, ap_bindOk]
theorem and_yes (a : f1 e h = .ok (.bl true) h1) (b : f2 e h1 = r) : eAnd f1 f2 e h = r := by simp only [ap_and, a, ap_bindOk]; exact b
theorem and_no (a : f1 e h = .ok (.bl false) h1) : eAnd f1 f2 e h = .ok (.bl false) h1 := by simp only [ap_and, a, ap_bindOk]
theorem not_ok {b : Bool} (a : f e h = .ok (.bl b) h1) : eUn oNot f e h = .ok (.bl (!b)) h1 := by simp only [ap_un, a, ap_bindOk]; rfl
theorem bin_ok {o : Hea → Val → Val → Option Val} (a : f1 e h = .ok d h1) (b : f2 e h1 = .ok d2 h2) (c : o h2 d d2 = some d3) : eBin o f1 f2 e h = .ok d3 h2 := by simp only [ap_bin, a, ap_bindOk, b, c, ap_optS]
theorem un_ok {o : Hea → Val → Option Val} (a : f e h = .ok d h1) (c : o h1 d = some d3) : eUn o f e h = .ok d3 h1 := by simp only [ap_un, a, ap_bindOk, c, ap_optS]
theorem acons_ok {xs : List Val} (a : f e h = .ok d h1) (b : l e h1 = .ok xs h2) : aCons f l e h = .ok (d :: xs) h2 := by simp only [ap_acons, a, ap_bindOk, b]
theorem disp_ok (a : l e h = .ok ds h1) (hl : ds.length ≤ 16777216) : lDisp l e h = .ok ds h1 := by simp only [ap_disp, a, ap_bindOk, if_pos hl]
theorem tup_ok (a : l e h = .ok ds h1) (hl : ds.length ≤ 16777216) : eTup l e h = .ok (.tup ds) h1 := by simp only [ap_tup, a, ap_bindOk, if_pos hl]
theorem lst_ok (a : l e h = .ok ds h1) : eLst l e h = .ok (.lst ds) h1 := by show (l e h).bind _ = _; rw [a]; rfl
theorem tmp_ok (a : l e h = .ok ds h1) : iTmp l e h = .ok (srcFix ds) h1 := by show (l e h).bind _ = _; rw [a]; rfl
theorem call_eq {cf : List Val → Hea → Res Val} (a : l e h = .ok ds h1) (b : cf ds h1 = r) : eCall cf l e h = r := by simp only [ap_call, a, ap_bindOk]; exact b
theorem if_t (a : f1 e h = .ok (.bl true) h1) (b : f2 e h1 = r) : eIf f1 f2 f3 e h = r := by simp only [ap_eif, a, ap_bindOk]; exact b
theorem if_f (a : f1 e h = .ok (.bl false) h1) (b : f3 e h1 = r) : eIf f1 f2 f3 e h = r := by simp only [ap_eif, a, ap_bindOk]; exact b
end
theorem ne_same {h : Hea} (a : Val) (e : eqB h a a = some true) : oNe h a a = some (.bl false) := by simp only [op_ne, e, Option.map_some, Bool.not_true]
theorem ne_int (h : Hea) (n : Int) : oNe h (.int n) (.int n) = some (.bl false) := ne_same _ (by rw [eq_int]; simp)
theorem app_of {f g : En → Hea → Res Val} {e : En} {h h1 h2 : Hea} {i : Nat} {xs0 xs : List Val} {y : Val} (a : f e h = .ok (.ref i) h1) (b : h1[i]? = some (.lst xs0)) (c : g e h1 = .ok y h2) (d : h2[i]? = some (.lst xs)) (hl : xs.length < 16777216) : eApp f g e h = .ok .non (h2.set i (.lst (xs ++ [y]))) := by
  unfold eApp
  simp only [a, ap_bindOk, b, c, d]
  rw [if_pos hl]
theorem lenO_of {k : Nat} {cf : List Val → Hea → Res Val} {f : En → Hea → Res Val} {e : En} {h : Hea} {x : Val} {fs : List (Nat × Val)} {n : Int} (a : f e h = .ok x h) (i : insOf h x = some (k, fs)) (c : cf [x] h = .ok (.int n) h) (b0 : 0 ≤ n) (b6 : n < 9223372036854775808) : eLenO k cf f e h = .ok (.int n) h := by
  unfold eLenO
  simp only [a, ap_bindOk, i, c, ap_noX]
  simp only [if_true]
  rw [if_pos ⟨b0, b6⟩]
@[simp] theorem src_seqT (f : En → Hea → Res Val) (e : En) (h : Hea) : iSeq f e h = (f e h).bind fun d h1 => match d with
  | .ref i => if (lstAt h1 i).isSome = true then .ok (srcLive i) h1 else .stuck
  | .tup xs => .ok (srcFix xs) h1
  | .lst xs => .ok (srcFix xs) h1
  | _ => .stuck := rfl
@[simp] theorem src_tmp (f : En → Hea → Res (List Val)) (e : En) (h : Hea) : iTmp f e h = (f e h).bind fun xs h1 => .ok (srcFix xs) h1 := rfl
@[simp] theorem ap_lst (l : En → Hea → Res (List Val)) (e : En) (h : Hea) : eLst l e h = (l e h).bind fun xs h1 => .ok (.lst xs) h1 := rfl
@[simp] theorem ls_lst (h : Hea) (xs : List Val) : lstOf h (.lst xs) = some xs := rfl
@[simp] theorem it_lst (h : Hea) (xs : List Val) : itemsOf h (.lst xs) = some xs := rfl
end Lad
end
/-! ## LadNum -/
section
set_option maxRecDepth 10000
namespace Lad
theorem nmod (m n : Nat) : ((m : Int)).fmod (n : Int) = ((m % n : Nat) : Int) := by
  rw [Int.fmod_eq_emod_of_nonneg _ (Int.natCast_nonneg n)]
  rfl
theorem half {m n : Nat} (hr : 0 < m % n) (hn : 0 < n) : 2 * (n % (m % n)) < n := by
  have h1 : m % n < n := Nat.mod_lt _ hn
  have h2 : n % (m % n) < m % n := Nat.mod_lt _ hr
  have h3 : n % (m % n) ≤ n - m % n := by
    rw [Nat.mod_eq_sub_mod (Nat.le_of_lt h1)]
    exact Nat.mod_le _ _
  omega
theorem gcd_step (m n : Nat) : Nat.gcd n (m % n) = Nat.gcd m n := by
  rw [Nat.gcd_comm m n, Nat.gcd_rec n m, Nat.gcd_comm]
end Lad
namespace Num
open PySem L2 Lad
def b_is_whole : En → Hea → SRes := (sRet (eAnd (eUn (oIsi [.int]) (eVar 0)) (eUn oNot (eUn (oIsi [.bool]) (eVar 0)))))
def c_is_whole : List Val → Hea → Res Val := runB 1 1 b_is_whole
def l_common_divisor_0 : En → Hea → SRes := (sPar [0, 1] (aCons (eVar 1) (aCons (eBin oMod (eCB gInt (aCons (eVar 0) aNil)) (eCB gInt (aCons (eVar 1) aNil))) aNil)))
def b_common_divisor : En → Hea → SRes := (sSeq (sPar [0, 1] (aCons (eCB gAbs (aCons (eVar 0) aNil)) (aCons (eCB gAbs (aCons (eVar 1) aNil)) aNil)))
  (sSeq (sWhile 5000 (eBin oGt (eVar 1) (eC (.int 0))) l_common_divisor_0)
  (sRet (eVar 0))))
def c_common_divisor : List Val → Hea → Res Val := runB 2 2 b_common_divisor
def b_is_above : En → Hea → SRes := (sRet (eBin oGt (eBin oMul (eBin oIx (eVar 0) (eC (.int 0))) (eBin oIx (eVar 1) (eC (.int 1)))) (eBin oMul (eBin oIx (eVar 1) (eC (.int 0))) (eBin oIx (eVar 0) (eC (.int 1))))))
def c_is_above : List Val → Hea → Res Val := runB 2 2 b_is_above
def b_is_integer : En → Hea → SRes := (sRet (eAnd (eCall c_is_whole (aCons (eVar 0) aNil)) (eChain oLe oLe (eVar 1) (eVar 0) (eVar 2))))
def c_is_integer : List Val → Hea → Res Val := runB 3 3 b_is_integer
def b_is_fraction : En → Hea → SRes := (sSeq (sIf (eOr (eUn oNot (eUn (oIsi [.tuple]) (eVar 0))) (eOr (eBin oNe (eIt gLen (eVar 0)) (eC (.int 2))) (eUn oNot (eItL gAll (lComp [1] (iSeq (eVar 0)) (gN 1) eYes (eCall c_is_whole (aCons (eVar 1) aNil))))))) (sRet (eC (.bl false))) sNil)
  (sRet (eAnd (eBin oGt (eBin oIx (eVar 0) (eC (.int 1))) (eC (.int 0))) (eBin oEq (eCall c_common_divisor (aCons (eBin oIx (eVar 0) (eC (.int 0))) (aCons (eBin oIx (eVar 0) (eC (.int 1))) aNil))) (eC (.int 1))))))
def c_is_fraction : List Val → Hea → Res Val := runB 1 2 b_is_fraction
def b_fraction (ec : Nat) : En → Hea → SRes := (sSeq (sIf (eBin oEq (eVar 1) (eC (.int 0))) (sRaise ec (eVar 1)) sNil)
  (sSeq (sSet 2 (eIf (eBin oGt (eVar 1) (eC (.int 0))) (eCall c_common_divisor (aCons (eVar 0) (aCons (eVar 1) aNil))) (eUn oNeg (eCall c_common_divisor (aCons (eVar 0) (aCons (eVar 1) aNil))))))
  (sRet (eTup (aCons (eBin oDiv (eVar 0) (eVar 2)) (aCons (eBin oDiv (eVar 1) (eVar 2)) aNil))))))
def c_fraction (ec : Nat) : List Val → Hea → Res Val := runB 2 3 (b_fraction ec)
def b_added (ec : Nat) : En → Hea → SRes := (sRet (eCall (c_fraction ec) (aCons (eBin oAdd (eBin oMul (eBin oIx (eVar 0) (eC (.int 0))) (eBin oIx (eVar 1) (eC (.int 1)))) (eBin oMul (eBin oIx (eVar 1) (eC (.int 0))) (eBin oIx (eVar 0) (eC (.int 1))))) (aCons (eBin oMul (eBin oIx (eVar 0) (eC (.int 1))) (eBin oIx (eVar 1) (eC (.int 1)))) aNil))))
def c_added (ec : Nat) : List Val → Hea → Res Val := runB 2 2 (b_added ec)
def b_less (ec : Nat) : En → Hea → SRes := (sRet (eCall (c_fraction ec) (aCons (eBin oSub (eBin oMul (eBin oIx (eVar 0) (eC (.int 0))) (eBin oIx (eVar 1) (eC (.int 1)))) (eBin oMul (eBin oIx (eVar 1) (eC (.int 0))) (eBin oIx (eVar 0) (eC (.int 1))))) (aCons (eBin oMul (eBin oIx (eVar 0) (eC (.int 1))) (eBin oIx (eVar 1) (eC (.int 1)))) aNil))))
def c_less (ec : Nat) : List Val → Hea → Res Val := runB 2 2 (b_less ec)
def b_multiplied (ec : Nat) : En → Hea → SRes := (sRet (eCall (c_fraction ec) (aCons (eBin oMul (eBin oIx (eVar 0) (eC (.int 0))) (eBin oIx (eVar 1) (eC (.int 0)))) (aCons (eBin oMul (eBin oIx (eVar 0) (eC (.int 1))) (eBin oIx (eVar 1) (eC (.int 1)))) aNil))))
def c_multiplied (ec : Nat) : List Val → Hea → Res Val := runB 2 2 (b_multiplied ec)
/-! ### gcd -/
theorem gcd_loop (h : Hea) : ∀ (k n : Nat) (a b : Nat), b < 2 ^ k → 2 * k + 2 ≤ n →
    whG (eBin oGt (eVar 1) (eC (.int 0))) (sPar [0, 1] (aCons (eVar 1) (aCons (eBin oMod (eCB gInt (aCons (eVar 0) aNil)) (eCB gInt (aCons (eVar 1) aNil))) aNil))) n [some (.int a), some (.int b)] h = .nx [some (.int (Nat.gcd a b)), some (.int 0)] h
  | 0, n + 1, a, b, hk, hn => by
    have hz : b = 0 := by simp at hk; exact hk
    subst hz
    unfold whG
    simp
  | k + 1, n + 1, a, b, hk, hn => by
    have e1 : ∀ (n a b : Nat), whG (eBin oGt (eVar 1) (eC (.int 0))) (sPar [0, 1] (aCons (eVar 1) (aCons (eBin oMod (eCB gInt (aCons (eVar 0) aNil)) (eCB gInt (aCons (eVar 1) aNil))) aNil))) (n + 1) [some (.int a), some (.int b)] h =
        if b = 0 then .nx [some (.int a), some (.int 0)] h else whG (eBin oGt (eVar 1) (eC (.int 0))) (sPar [0, 1] (aCons (eVar 1) (aCons (eBin oMod (eCB gInt (aCons (eVar 0) aNil)) (eCB gInt (aCons (eVar 1) aNil))) aNil))) n [some (.int b), some (.int ((a % b : Nat) : Int))] h := by
      intro n a b
      by_cases hz : b = 0
      · subst hz
        unfold whG
        simp
      · have hp : (0 : Int) < b := by omega
        have hne : (b : Int) ≠ 0 := by omega
        conv => lhs; unfold whG
        simp [hz, Nat.pos_of_ne_zero hz, hne, nmod]
    rw [e1]
    by_cases hz : b = 0
    · subst hz
      simp
    · rw [if_neg hz]
      match n, hn with
      | n + 1, hn =>
        rw [e1]
        by_cases hr : a % b = 0
        · rw [if_pos hr, ← gcd_step a b, hr]
          simp
        · rw [if_neg hr, gcd_loop h k n _ _ ?_ (by omega), gcd_step, gcd_step]
          have := half (m := a) (n := b) (by omega) (by omega)
          have e : 2 ^ (k + 1) = 2 * 2 ^ k := by rw [Nat.pow_succ]; omega
          omega
theorem gcd_ok (h : Hea) (a b : Int) (hb : b.natAbs < 2 ^ 2000) : c_common_divisor [.int a, .int b] h = .ok (.int (Int.gcd a b)) h := by
  unfold c_common_divisor runB runG b_common_divisor
  simp [startE, sWhile, l_common_divisor_0]
  rw [gcd_loop h 2000 5000 a.natAbs b.natAbs hb (by omega)]
  simp
  rfl
/-! ### fractions -/
def sg (o u : Int) : Int := if 0 < u then (Int.gcd o u : Int) else -(Int.gcd o u : Int)
def fp (o u : Int) : Int := o.fdiv (sg o u)
def fq (o u : Int) : Int := u.fdiv (sg o u)
structure FrOk (o u p q : Int) : Prop where
  pos : 0 < q
  cop : Int.gcd p q = 1
  eq : p * u = o * q
  lp : p.natAbs ≤ o.natAbs
  lq : q.natAbs ≤ u.natAbs
theorem fr_ok {o u : Int} (hu : u ≠ 0) : FrOk o u (fp o u) (fq o u) ∧ sg o u ≠ 0 ∧ (sg o u).natAbs ≤ u.natAbs := by
  obtain ⟨g, hgd⟩ : ∃ g, g = Int.gcd o u := ⟨_, rfl⟩
  have hg : 0 < g := by rw [hgd]; exact Int.gcd_pos_of_ne_zero_right o hu
  obtain ⟨o', ho⟩ : (g : Int) ∣ o := by rw [hgd]; exact Int.gcd_dvd_left ..
  obtain ⟨u', hu'⟩ : (g : Int) ∣ u := by rw [hgd]; exact Int.gcd_dvd_right ..
  have hc : Int.gcd o' u' = 1 := by
    have e : g = g * Int.gcd o' u' := by
      have := hgd
      rw [ho, hu', Int.gcd_mul_left] at this
      simpa using this
    have e2 : g * 1 = g * Int.gcd o' u' := by omega
    exact (Nat.eq_of_mul_eq_mul_left hg e2).symm
  have ab : ∀ x : Int, x.natAbs ≤ ((g : Int) * x).natAbs := fun x => by
    rw [Int.natAbs_mul]
    exact Nat.le_mul_of_pos_left _ (by simpa using hg)
  have gu : g ≤ u.natAbs := by
    have hz : u' ≠ 0 := fun z => by rw [z] at hu'; simp at hu'; exact hu hu'
    rw [hu', Int.natAbs_mul]
    exact Nat.le_mul_of_pos_right _ (by omega)
  by_cases hp : 0 < u
  · have es : sg o u = g := by
      unfold sg
      rw [if_pos hp, hgd]
    have ep : fp o u = o' := by
      unfold fp
      rw [es, ho]
      exact Int.mul_fdiv_cancel_left _ (by omega)
    have eq : fq o u = u' := by
      unfold fq
      rw [es, hu']
      exact Int.mul_fdiv_cancel_left _ (by omega)
    rw [ep, eq, es]
    refine ⟨⟨?_, hc, ?_, by rw [ho]; exact ab o', by rw [hu']; exact ab u'⟩, by omega, by omega⟩
    · rw [hu'] at hp
      exact Int.pos_of_mul_pos_right hp (by omega)
    · rw [ho, hu', Int.mul_comm o', Int.mul_assoc, Int.mul_assoc, Int.mul_comm u']
  · have es : sg o u = -g := by
      unfold sg
      rw [if_neg hp, hgd]
    have ep : fp o u = -o' := by
      unfold fp
      rw [es, ho, show (g : Int) * o' = (-(g : Int)) * (-o') by rw [Int.neg_mul_neg]]
      exact Int.mul_fdiv_cancel_left _ (by omega)
    have eq : fq o u = -u' := by
      unfold fq
      rw [es, hu', show (g : Int) * u' = (-(g : Int)) * (-u') by rw [Int.neg_mul_neg]]
      exact Int.mul_fdiv_cancel_left _ (by omega)
    rw [ep, eq, es]
    refine ⟨⟨?_, by simpa using hc, ?_, by rw [ho, Int.natAbs_neg]; exact ab o', by rw [hu', Int.natAbs_neg]; exact ab u'⟩, by omega, by omega⟩
    · have hm : 0 < (g : Int) * (-u') := by
        rw [Int.mul_neg, ← hu']
        omega
      exact Int.pos_of_mul_pos_right hm (by omega)
    · rw [ho, hu', Int.neg_mul, Int.mul_neg, Int.mul_comm o', Int.mul_assoc, Int.mul_assoc, Int.mul_comm u']
theorem frac_ok (ec : Nat) (h : Hea) {o u : Int} (hu : u ≠ 0) (bu : u.natAbs < 2 ^ 2000) : c_fraction ec [.int o, .int u] h = .ok (.tup [.int (fp o u), .int (fq o u)]) h := by
  have ⟨_, s0, sl⟩ := fr_ok (o := o) hu
  have l9 : (sg o u).natAbs.log2 < 9000 := log2_lt (k := 9000) (by
    have : (2 : Nat) ^ 2000 ≤ 2 ^ 9000 := Nat.pow_le_pow_right (by decide) (by decide)
    omega) (by decide)
  unfold c_fraction runB runG b_fraction
  simp only [List.length_cons, List.length_nil, startE]
  by_cases hp : 0 < u
  · have es : sg o u = Int.gcd o u := by unfold sg; rw [if_pos hp]
    have s0' : ¬ ((Int.gcd o u : Nat) : Int) = 0 := by rw [← es]; exact s0
    have l9' : ((Int.gcd o u : Nat) : Int).natAbs.log2 < 9000 := by rw [← es]; exact l9
    simp [hu, hp, gcd_ok _ _ _ bu, s0', l9', -Int.natCast_eq_zero, -Int.gcd_eq_zero_iff, -Int.natAbs_natCast]
    unfold fp fq
    rw [es]
    exact ⟨rfl, rfl⟩
  · have es : sg o u = -Int.gcd o u := by unfold sg; rw [if_neg hp]
    have s0' : ¬ -((Int.gcd o u : Nat) : Int) = 0 := by rw [← es]; exact s0
    have l9' : (-((Int.gcd o u : Nat) : Int)).natAbs.log2 < 9000 := by rw [← es]; exact l9
    simp [hu, hp, gcd_ok _ _ _ bu, s0', l9', -Int.neg_eq_zero, -Int.natAbs_neg, -Int.natAbs_natCast]
    unfold fp fq
    rw [es]
    exact ⟨rfl, rfl⟩
theorem frac_0 (ec : Nat) (h : Hea) (o : Int) : c_fraction ec [.int o, .int 0] h = .exc ec (.int 0) h := by
  unfold c_fraction runB runG b_fraction
  simp [startE]
theorem whole_int (h : Hea) (a : Int) : c_is_whole [.int a] h = .ok (.bl true) h := by
  unfold c_is_whole runB runG b_is_whole
  simp [startE, oIsi, tyK, isTB]
theorem isf_ok (h : Hea) (p q : Int) (bq : q.natAbs < 2 ^ 2000) : c_is_fraction [.tup [.int p, .int q]] h = .ok (.bl (decide (0 < q ∧ Int.gcd p q = 1))) h := by
  unfold c_is_fraction runB runG b_is_fraction
  by_cases hq : 0 < q
  · simp [startE, oIsi, tyK, isTB, lComp, iSeq, srcFix, runComp, compL, wipeE, whole_int, gAll, bls?, gcd_ok _ _ _ bq, hq]
    have z : (((Int.gcd p q : Nat) : Int) = 1) ↔ Int.gcd p q = 1 := by omega
    simp only [z]
  · simp [startE, oIsi, tyK, isTB, lComp, iSeq, srcFix, runComp, compL, wipeE, whole_int, gAll, bls?, gcd_ok _ _ _ bq, hq]
theorem above_ok (h : Hea) (p q r s : Int) (m1 : mulOk p s = true) (m2 : mulOk r q = true) : c_is_above [.tup [.int p, .int q], .tup [.int r, .int s]] h = .ok (.bl (decide (r * q < p * s))) h := by
  unfold c_is_above runB runG b_is_above
  simp [startE, m1, m2]
theorem added_ok (ec : Nat) (h : Hea) (p q r s : Int) (m1 : mulOk p s = true) (m2 : mulOk r q = true) (m3 : mulOk q s = true) (h0 : q * s ≠ 0) (b : (q * s).natAbs < 2 ^ 2000) :
    c_added ec [.tup [.int p, .int q], .tup [.int r, .int s]] h = .ok (.tup [.int (fp (p * s + r * q) (q * s)), .int (fq (p * s + r * q) (q * s))]) h := by
  unfold c_added runB runG b_added
  simp [startE, m1, m2, m3, frac_ok ec h h0 b]
theorem less_ok (ec : Nat) (h : Hea) (p q r s : Int) (m1 : mulOk p s = true) (m2 : mulOk r q = true) (m3 : mulOk q s = true) (h0 : q * s ≠ 0) (b : (q * s).natAbs < 2 ^ 2000) :
    c_less ec [.tup [.int p, .int q], .tup [.int r, .int s]] h = .ok (.tup [.int (fp (p * s - r * q) (q * s)), .int (fq (p * s - r * q) (q * s))]) h := by
  unfold c_less runB runG b_less
  simp [startE, m1, m2, m3, frac_ok ec h h0 b]
theorem mul_ok (ec : Nat) (h : Hea) (p q r s : Int) (m1 : mulOk p r = true) (m3 : mulOk q s = true) (h0 : q * s ≠ 0) (b : (q * s).natAbs < 2 ^ 2000) :
    c_multiplied ec [.tup [.int p, .int q], .tup [.int r, .int s]] h = .ok (.tup [.int (fp (p * r) (q * s)), .int (fq (p * r) (q * s))]) h := by
  unfold c_multiplied runB runG b_multiplied
  simp [startE, m1, m3, frac_ok ec h h0 b]
theorem isi_ok (h : Hea) (a l u : Int) : c_is_integer [.int a, .int l, .int u] h = .ok (.bl (decide (l ≤ a ∧ a ≤ u))) h := by
  unfold c_is_integer runB runG b_is_integer
  by_cases hl : l ≤ a
  · simp [startE, whole_int, hl]
  · simp [startE, whole_int, hl]
end Num
end
/-! ## LadDraw -/
section
set_option maxRecDepth 10000
namespace Lad
open PySem L2
theorem lt_of_at {h : Hea} {p : Nat} {o : Ob} (e : h[p]? = some o) : p < h.length := (List.getElem?_eq_some_iff.mp e).1
theorem ls_at {h : Hea} {p : Nat} {xs : List Val} (e : h[p]? = some (.lst xs)) : lstAt h p = some xs := by unfold lstAt; rw [e]
@[simp] theorem ap_setIx (fv fo fi : En → Hea → Res Val) (e : En) (h : Hea) : sSetIx fv fo fi e h = ofR ((fv e h).bind fun v h1 => (fo e h1).bind fun o h2 => (fi e h2).bind fun i h3 => match setIx h3 o i v with
    | some h4 => .ok Val.non h4
    | none => .stuck) e fun _ h4 => .nx e h4 := rfl
/-- the script, a pool of a number and a state, and what else is held -/
abbrev Hp2 (ns : List Int) (a b : Int) (t : Hea) : Hea := .fro ns :: .lst [.int a, .int b] :: t
section
variable (ns : List Int) (a b : Int) (t : Hea)
@[simp] theorem hp2_ix0 : oIx (Hp2 ns a b t) (.ref 1) (.int 0) = some (.int a) := rfl
@[simp] theorem hp2_ix1 : oIx (Hp2 ns a b t) (.ref 1) (.int 1) = some (.int b) := rfl
@[simp] theorem hp2_set0 (v : Int) : setIx (Hp2 ns a b t) (.ref 1) (.int 0) (.int v) = some (Hp2 ns v b t) := rfl
@[simp] theorem hp2_set1 (v : Int) : setIx (Hp2 ns a b t) (.ref 1) (.int 1) (.int v) = some (Hp2 ns a v t) := rfl
end
def PoolOk (a b : Int) : Prop := 0 ≤ a ∧ 0 ≤ b ∧ b < 2147483647
end Lad
namespace Drw
open PySem L2 Lad
def b__law_draw : En → Hea → SRes := (sSeq (sIf (eBin oGt (eBin oIx (eVar 0) (eC (.int 0))) (eC (.int 0))) (sSeq (sSet 2 (eBin oMod (eCB gInt (aCons (eBin oIx (eVar 0) (eC (.int 0))) aNil)) (eVar 1)))
  (sSeq (sSetIx (eBin oDiv (eBin oIx (eVar 0) (eC (.int 0))) (eVar 1)) (eVar 0) (eC (.int 0)))
  (sRet (eVar 2)))) sNil)
  (sSeq (sSetIx (eBin oMod (eCB gInt (aCons (eBin oAdd (eBin oMul (eBin oIx (eVar 0) (eC (.int 1))) (eC (.int 48271))) (eC (.int 11))) aNil)) (eC (.int 2147483647))) (eVar 0) (eC (.int 1)))
  (sRet (eBin oMod (eCB gInt (aCons (eBin oDiv (eBin oMod (eCB gInt (aCons (eBin oMul (eBin oIx (eVar 0) (eC (.int 1))) (eBin oIx (eVar 0) (eC (.int 1)))) aNil)) (eC (.int 2147483629))) (eC (.int 16))) aNil)) (eVar 1)))))
def c__law_draw : List Val → Hea → Res Val := runB 2 3 b__law_draw
theorem draw_ok (ns : List Int) (t : Hea) {a b m : Int} (P : PoolOk a b) (hm : 0 < m) (lm : m.natAbs.log2 < 9000) :
    ∃ r a' b' : Int, 0 ≤ r ∧ r < m ∧ PoolOk a' b' ∧ c__law_draw [.ref 1, .int m] (Hp2 ns a b t) = .ok (.int r) (Hp2 ns a' b' t) := by
  obtain ⟨ha, hb, hb2⟩ := P
  have hm' : ¬ m = 0 := by omega
  unfold c__law_draw runB runG b__law_draw
  by_cases h0 : 0 < a
  · refine ⟨a.fmod m, a.fdiv m, b, Int.fmod_nonneg_of_pos _ hm, Int.fmod_lt_of_pos _ hm, ⟨Int.fdiv_nonneg ha (by omega), hb, hb2⟩, ?_⟩
    simp [startE, h0, hm', lm]
    exact fin_len rfl
  · have a0 : a = 0 := by omega
    subst a0
    have m1 : mulOk b 48271 = true := mulOk_r (by decide)
    have nb : 0 ≤ (b * 48271 + 11).fmod 2147483647 := Int.fmod_nonneg_of_pos _ (by decide)
    have nb2 : (b * 48271 + 11).fmod 2147483647 < 2147483647 := Int.fmod_lt_of_pos _ (by decide)
    generalize hn : (b * 48271 + 11).fmod 2147483647 = nb' at nb nb2
    have m2 : mulOk nb' nb' = true := mulOk_r (by omega)
    refine ⟨(((nb' * nb').fmod 2147483629).fdiv 16).fmod m, 0, nb', Int.fmod_nonneg_of_pos _ hm, Int.fmod_lt_of_pos _ hm, ⟨Int.le_refl _, nb, nb2⟩, ?_⟩
    have l16 : Nat.log2 16 < 9000 := by decide
    simp [startE, m1, hn, m2, hm', l16]
    exact fin_len rfl
/-! the pool of the later laws -/
def b_poolB : En → Hea → SRes := (sSeq (sSet 2 (eIf (eBin oLt (eVar 1) (eIt gLen (eVar 0))) (eCB gMax2 (aCons (eCB gInt (aCons (eBin oIx (eVar 0) (eVar 1)) aNil)) (aCons (eCB gInt (aCons (eBin oSub (eUn oNeg (eC (.int 1))) (eBin oIx (eVar 0) (eVar 1))) aNil)) aNil))) (eC (.int 7))))
  (sSeq (sSet 3 (eBin oAdd (eBin oMod (eCB gInt (aCons (eBin oMul (eBin oAdd (eBin oMod (eCB gInt (aCons (eVar 2) aNil)) (eC (.int 2147483629))) (eBin oMul (eC (.int 104729)) (eBin oAdd (eVar 1) (eC (.int 1))))) (eC (.int 48271))) aNil)) (eC (.int 2147483629))) (eC (.int 1))))
  (sRet (eNew (lDisp (aCons (eBin oMul (eVar 2) (eCB gInt (aCons (eBin oGe (eVar 2) (eBin oPow (eC (.int 10)) (eC (.int 18)))) aNil))) (aCons (eBin oMod (eCB gInt (aCons (eBin oMul (eVar 3) (eVar 3)) aNil)) (eC (.int 2147483629))) aNil)))))))
def c_poolB : List Val → Hea → Res Val := runK 2 4 b_poolB
theorem pow18 (h : Hea) : oPow h (.int 10) (.int 18) = some (.int 1000000000000000000) := rfl
theorem poolB_ok (ns : List Int) (k : Nat) (hk : k < 64) : ∃ a b : Int, PoolOk a b ∧ c_poolB [.ref 0, .int k] [.fro ns] = .ok (.ref 1) (Hp2 ns a b []) := by
  have el : itemsOf [Ob.fro ns] (.ref 0) = some (ns.map Val.int) := rfl
  have hs : ∃ z : Int, 0 ≤ z ∧ eIf (eBin oLt (eVar 1) (eIt gLen (eVar 0))) (eCB gMax2 (aCons (eCB gInt (aCons (eBin oIx (eVar 0) (eVar 1)) aNil)) (aCons (eCB gInt (aCons (eBin oSub (eUn oNeg (eC (.int 1))) (eBin oIx (eVar 0) (eVar 1))) aNil)) aNil))) (eC (.int 7)) (startE 4 [.ref 0, .int k]) [.fro ns] = .ok (.int z) [.fro ns] := by
    by_cases hl : k < ns.length
    · have ei : oIx [Ob.fro ns] (.ref 0) (.int k) = some (.int ns[k]) := by
        show L2.atI (ns.map Val.int) (k : Int) = _
        unfold L2.atI L2.ixN
        rw [if_pos (by omega), if_pos (by simp; omega)]
        simp [hl]
      have e1 : eIt gLen (eVar 0) (startE 4 [.ref 0, .int k]) [.fro ns] = .ok (.int ns.length) [.fro ns] := by simp [startE, lstAt]
      have hd : decide ((k : Int) < (ns.length : Int)) = true := decide_eq_true (by omega)
      generalize hz : ns[k] = z at ei
      refine ⟨if -1 - z > z then -1 - z else z, by split <;> omega, ?_⟩
      have e2 : eVar 1 (startE 4 [.ref 0, .int k]) [.fro ns] = .ok (.int k) [.fro ns] := rfl
      have e3 : eVar 0 (startE 4 [.ref 0, .int k]) [.fro ns] = .ok (.ref 0) [.fro ns] := rfl
      generalize (k : Int) = kk at *
      generalize (ns.length : Int) = nn at *
      simp only [ap_eif, ap_bin, e1, e2, e3, ap_bindOk, Lad.op_lt, ap_optS, hd, ap_cb, ap_acons, ap_anil, ei, g_int', ap_un, ap_c, Lad.op_neg, Lad.op_sub, gMax2]
    · have e1 : eIt gLen (eVar 0) (startE 4 [.ref 0, .int k]) [.fro ns] = .ok (.int ns.length) [.fro ns] := by simp [startE, lstAt]
      have hd : decide ((k : Int) < (ns.length : Int)) = false := decide_eq_false (by omega)
      have e2 : eVar 1 (startE 4 [.ref 0, .int k]) [.fro ns] = .ok (.int k) [.fro ns] := rfl
      refine ⟨7, by decide, ?_⟩
      generalize (k : Int) = kk at *
      generalize (ns.length : Int) = nn at *
      simp only [ap_eif, ap_bin, e1, e2, ap_bindOk, Lad.op_lt, ap_optS, hd, ap_c]
  obtain ⟨z, hz, ez⟩ := hs
  have h1 : 0 ≤ (z.fmod 2147483629 + 104729 * ((k : Int) + 1)) := by
    have := Int.fmod_nonneg_of_pos z (b := 2147483629) (by decide)
    omega
  have h2 : (z.fmod 2147483629 + 104729 * ((k : Int) + 1)) < 2147483629 + 104729 * 65 := by
    have := Int.fmod_lt_of_pos z (b := 2147483629) (by decide)
    omega
  generalize hw : ((z.fmod 2147483629 + 104729 * ((k : Int) + 1)) * 48271).fmod 2147483629 + 1 = w
  have w1 : 0 ≤ w := by
    have := Int.fmod_nonneg_of_pos ((z.fmod 2147483629 + 104729 * ((k : Int) + 1)) * 48271) (b := 2147483629) (by decide)
    omega
  have w2 : w < 2147483630 := by
    have := Int.fmod_lt_of_pos ((z.fmod 2147483629 + 104729 * ((k : Int) + 1)) * 48271) (b := 2147483629) (by decide)
    omega
  have m1 : mulOk 104729 ((k : Int) + 1) = true := mulOk_l (by decide)
  have m2 : ∀ x : Int, mulOk x 48271 = true := fun x => mulOk_r (by decide)
  have m3 : ∀ c : Bool, mulOk z (if c = true then 1 else 0) = true := fun c => mulOk_r (by cases c <;> decide)
  have m4 : mulOk w w = true := mulOk_r (by omega)
  refine ⟨z * (if decide (1000000000000000000 ≤ z) = true then 1 else 0), (w * w).fmod 2147483629, ⟨?_, Int.fmod_nonneg_of_pos _ (by decide), ?_⟩, ?_⟩
  · split <;> omega
  · have := Int.fmod_lt_of_pos (w * w) (b := 2147483629) (by decide)
    omega
  · refine (run_rt (fn := finK) (d := .ref 1) (h' := [.fro ns, .lst [.int (z * (if decide (1000000000000000000 ≤ z) = true then 1 else 0)), .int ((w * w).fmod 2147483629)]]) rfl ?_).trans ?_
    · unfold b_poolB
      refine seq_set ez ?_
      refine seq_set (d := .int w) (h1 := [.fro ns]) ?_ ?_
      · rw [← hw]
        generalize (k : Int) = kk at *
        simp [startE, m1, m2]
      · have m3' := m3 (decide (1000000000000000000 ≤ z))
        have m3'' : mulOk z (if 1000000000000000000 ≤ z then 1 else 0) = true := by simpa using m3'
        generalize (k : Int) = kk at *
        simp [startE, pow18, m3'', m4]
    · rfl
end Drw
end
/-! ## LadPoolA -/
section
set_option maxRecDepth 10000
set_option maxHeartbeats 1000000
namespace Drw
open PySem L2 Lad
def b_poolA : En → Hea → SRes := (sSeq (sSet 2 (eIf (eBin oLt (eVar 1) (eIt gLen (eVar 0))) (eBin oIx (eVar 0) (eVar 1)) (eBin oAdd (eBin oMul (eC (.int 7)) (eItL gSum (lCut (eVar 0) none (some (eC (.int 63)))))) (eVar 1))))
  (sSeq (sSet 3 (eCB gAbs (aCons (eVar 2) aNil)))
  (sSeq (sSet 4 (eBin oAdd (eBin oAdd (eBin oAdd (eBin oMod (eCB gInt (aCons (eVar 3) aNil)) (eC (.int 2147483629))) (eBin oMul (eBin oMul (eC (.int 7919)) (eVar 1)) (eVar 1))) (eBin oMul (eC (.int 31)) (eVar 1))) (eC (.int 17))))
  (sSeq (sSet 4 (eBin oMod (eCB gInt (aCons (eBin oMul (eVar 4) (eC (.int 48271))) aNil)) (eC (.int 2147483647))))
  (sRet (eNew (lDisp (aCons (eBin oMul (eVar 3) (eCB gInt (aCons (eBin oGe (eVar 3) (eBin oPow (eC (.int 10)) (eC (.int 18)))) aNil))) (aCons (eBin oMod (eCB gInt (aCons (eBin oMul (eVar 4) (eVar 4)) aNil)) (eC (.int 2147483629))) aNil)))))))))
def c_poolA : List Val → Hea → Res Val := runK 2 5 b_poolA
theorem ints_map : ∀ ns : List Int, ints? (ns.map Val.int) = some ns
  | [] => rfl
  | n :: ns => by simp [ints?, ints_map ns]
theorem sum_cut (ns : List Int) (lo hi : Option Int) : ∃ m : Int, gSum (cutL (ns.map Val.int) lo hi) = some (.int m) := by
  unfold cutL
  generalize HT.sIx (ns.map Val.int).length 0 lo = a
  generalize HT.sIx (ns.map Val.int).length (ns.map Val.int).length hi = b
  refine ⟨((ns.drop a).take (b - a)).sum, ?_⟩
  rw [← List.map_drop, ← List.map_take]
  unfold gSum
  rw [ints_map]
  rfl
theorem poolA_aux (ns : List Int) (kk y : Int) (kk0 : 0 ≤ kk) (kk1 : kk < 64) (ey : eIf (eBin oLt (eVar 1) (eIt gLen (eVar 0))) (eBin oIx (eVar 0) (eVar 1)) (eBin oAdd (eBin oMul (eC (.int 7)) (eItL gSum (lCut (eVar 0) none (some (eC (.int 63)))))) (eVar 1)) (startE 5 [.ref 0, .int kk]) [.fro ns] = .ok (.int y) [.fro ns]) : ∃ a b : Int, PoolOk a b ∧ c_poolA [.ref 0, .int kk] [.fro ns] = .ok (.ref 1) (Hp2 ns a b []) := by
  generalize hz : (y.natAbs : Int) = z
  have z0 : 0 ≤ z := by omega
  generalize hv : z.fmod 2147483629 + 7919 * kk * kk + 31 * kk + 17 = v
  have kk2 : 7919 * kk * kk ≤ 7919 * 64 * 64 := by
    have h1 : 7919 * kk ≤ 7919 * 64 := by omega
    exact Int.mul_le_mul h1 (by omega) kk0 (by decide)
  have kk3 : 0 ≤ 7919 * kk * kk := Int.mul_nonneg (by omega) kk0
  have f0 := Int.fmod_nonneg_of_pos z (b := 2147483629) (by decide)
  have f1 := Int.fmod_lt_of_pos z (b := 2147483629) (by decide)
  have v0 : 0 ≤ v := by omega
  generalize hw : (v * 48271).fmod 2147483647 = w
  have w1 : 0 ≤ w := by
    have := Int.fmod_nonneg_of_pos (v * 48271) (b := 2147483647) (by decide)
    omega
  have w2 : w < 2147483647 := by
    have := Int.fmod_lt_of_pos (v * 48271) (b := 2147483647) (by decide)
    omega
  have m1 : mulOk 7919 kk = true := mulOk_l (by decide)
  have m2 : mulOk (7919 * kk) kk = true := mulOk_r (by omega)
  have m5 : mulOk 31 kk = true := mulOk_l (by decide)
  have m6 : mulOk v 48271 = true := mulOk_r (by decide)
  have m3 : ∀ c : Bool, mulOk z (if c = true then 1 else 0) = true := fun c => mulOk_r (by cases c <;> decide)
  have m4 : mulOk w w = true := mulOk_r (by omega)
  refine ⟨z * (if decide (1000000000000000000 ≤ z) = true then 1 else 0), (w * w).fmod 2147483629, ⟨?_, Int.fmod_nonneg_of_pos _ (by decide), ?_⟩, ?_⟩
  · split <;> omega
  · have := Int.fmod_lt_of_pos (w * w) (b := 2147483629) (by decide)
    omega
  · refine (run_rt (fn := finK) (d := .ref 1) (h' := [.fro ns, .lst [.int (z * (if decide (1000000000000000000 ≤ z) = true then 1 else 0)), .int ((w * w).fmod 2147483629)]]) rfl ?_).trans ?_
    · unfold b_poolA
      refine seq_set ey ?_
      refine seq_set (d := .int z) (h1 := [.fro ns]) (by rw [← hz]; simp [startE]) ?_
      refine seq_set (d := .int v) (h1 := [.fro ns]) ?_ ?_
      · rw [← hv]
        simp [startE, m1, m2, m5]
      refine seq_set (d := .int w) (h1 := [.fro ns]) ?_ ?_
      · rw [← hw]
        simp [startE, m6]
      · generalize hE : ((((startE 5 [Val.ref 0, Val.int kk]).set 2 (some (Val.int y))).set 3 (some (Val.int z))).set 4 (some (Val.int v))).set 4 (some (Val.int w)) = E
        have v3 : eVar 3 E [.fro ns] = .ok (.int z) [.fro ns] := by rw [← hE]; rfl
        have v4 : eVar 4 E [.fro ns] = .ok (.int w) [.fro ns] := by rw [← hE]; rfl
        have g1 : eBin oGe (eVar 3) (eBin oPow (eC (.int 10)) (eC (.int 18))) E [.fro ns] = .ok (.bl (decide (1000000000000000000 ≤ z))) [.fro ns] := bin_ok v3 (bin_ok rfl rfl (pow18 _)) (Lad.op_ge _ _ _)
        have m3' := m3 (decide (1000000000000000000 ≤ z))
        generalize decide (1000000000000000000 ≤ z) = c at *
        have g2 : eCB gInt (aCons (eBin oGe (eVar 3) (eBin oPow (eC (.int 10)) (eC (.int 18)))) aNil) E [.fro ns] = .ok (.int (if c = true then 1 else 0)) [.fro ns] := by simp only [ap_cb, ap_acons, g1, ap_bindOk, ap_anil, g_intb, ap_optS]
        have g3 : eBin oMul (eVar 3) (eCB gInt (aCons (eBin oGe (eVar 3) (eBin oPow (eC (.int 10)) (eC (.int 18)))) aNil)) E [.fro ns] = .ok (.int (z * (if c = true then 1 else 0))) [.fro ns] := bin_ok v3 g2 (by simp only [Lad.op_mul, m3', if_true])
        have g4 : eBin oMul (eVar 4) (eVar 4) E [.fro ns] = .ok (.int (w * w)) [.fro ns] := bin_ok v4 v4 (by simp only [Lad.op_mul, m4, if_true])
        have g5 : eBin oMod (eCB gInt (aCons (eBin oMul (eVar 4) (eVar 4)) aNil)) (eC (.int 2147483629)) E [.fro ns] = .ok (.int ((w * w).fmod 2147483629)) [.fro ns] := bin_ok (d := .int (w * w)) (by simp only [ap_cb, ap_acons, g4, ap_bindOk, ap_anil, g_int', ap_optS]) rfl (by rw [Lad.op_mod, if_pos (by decide)])
        refine ret_ok ?_
        show (lDisp _ _ _).bind _ = _
        rw [disp_ok (acons_ok g3 (acons_ok g5 rfl)) (Nat.le_of_ble_eq_true rfl)]
        rfl
    · rfl
theorem poolA_ok (ns : List Int) (k : Nat) (hk : k < 64) : ∃ a b : Int, PoolOk a b ∧ c_poolA [.ref 0, .int k] [.fro ns] = .ok (.ref 1) (Hp2 ns a b []) := by
  have e3 : eVar 0 (startE 5 [.ref 0, .int k]) [.fro ns] = .ok (.ref 0) [.fro ns] := rfl
  have e2 : eVar 1 (startE 5 [.ref 0, .int k]) [.fro ns] = .ok (.int k) [.fro ns] := rfl
  have e1 : eIt gLen (eVar 0) (startE 5 [.ref 0, .int k]) [.fro ns] = .ok (.int ns.length) [.fro ns] := by simp [startE, lstAt]
  have hs : ∃ z : Int, eIf (eBin oLt (eVar 1) (eIt gLen (eVar 0))) (eBin oIx (eVar 0) (eVar 1)) (eBin oAdd (eBin oMul (eC (.int 7)) (eItL gSum (lCut (eVar 0) none (some (eC (.int 63)))))) (eVar 1)) (startE 5 [.ref 0, .int k]) [.fro ns] = .ok (.int z) [.fro ns] := by
    by_cases hl : k < ns.length
    · have ei : oIx [Ob.fro ns] (.ref 0) (.int k) = some (.int ns[k]) := by
        show L2.atI (ns.map Val.int) (k : Int) = _
        unfold L2.atI L2.ixN
        rw [if_pos (by omega), if_pos (by simp; omega)]
        simp [hl]
      have hd : decide ((k : Int) < (ns.length : Int)) = true := decide_eq_true (by omega)
      generalize ns[k] = z at ei
      refine ⟨z, ?_⟩
      generalize (k : Int) = kk at *
      generalize (ns.length : Int) = nn at *
      simp only [ap_eif, ap_bin, e1, e2, e3, ap_bindOk, Lad.op_lt, ap_optS, hd, ei]
    · have hd : decide ((k : Int) < (ns.length : Int)) = false := decide_eq_false (by omega)
      have e4 : lCut (eVar 0) none (some (eC (.int 63))) (startE 5 [.ref 0, .int k]) [.fro ns] = .ok (cutL (ns.map Val.int) none (some 63)) [.fro ns] := rfl
      have e5 := sum_cut ns none (some 63)
      obtain ⟨m, e5⟩ := e5
      have m7 : mulOk 7 m = true := mulOk_l (by decide)
      refine ⟨7 * m + k, ?_⟩
      generalize (k : Int) = kk at *
      generalize (ns.length : Int) = nn at *
      simp only [ap_eif, ap_bin, e1, e2, ap_bindOk, Lad.op_lt, ap_optS, hd, ap_c, ap_itL, e4, e5, Lad.op_mul, m7, if_true, Lad.op_add]
  obtain ⟨y, ey⟩ := hs
  exact poolA_aux ns k y (by omega) (by omega) ey
end Drw
end
/-! ## LadCell -/
section
set_option maxRecDepth 10000
set_option maxHeartbeats 1000000
namespace Lad
open PySem L2
theorem gc_same {dead : List Nat} {n : Nat} {e : En} {h : Hea} (s : shut n n h = some h) : gcN dead n e h = (wipeAll e dead, h) := by
  unfold gcN
  dsimp only
  split
  · rename_i g hg
    split at hg
    · rw [s] at hg; cases hg; rfl
    · cases hg
  · rfl
/-- the cells of a law: max(1, min(len(script), K)) of them -/
theorem cells (ns : List Int) (K : Nat) (h1K : 1 ≤ K) (hK : K ≤ 63) (e : En) (e0 : e[0]? = some (some (.ref 0))) : ∃ m : Nat, m ≤ K ∧ iRng1V (aCons (eCB gMax2 (aCons (eC (.int 1)) (aCons (eCB gMin2 (aCons (eIt gLen (eVar 0)) (aCons (eC (.int K)) aNil))) aNil))) aNil) e [.fro ns] = .ok (srcFix (rangeV 0 m)) [.fro ns] := by
  have e1 : eIt gLen (eVar 0) e [.fro ns] = .ok (.int ns.length) [.fro ns] := by simp [e0, lstAt]
  obtain ⟨m, m1, m3, e2⟩ : ∃ m : Nat, 1 ≤ m ∧ m ≤ K ∧ eCB gMax2 (aCons (eC (.int 1)) (aCons (eCB gMin2 (aCons (eIt gLen (eVar 0)) (aCons (eC (.int K)) aNil))) aNil)) e [.fro ns] = .ok (.int m) [.fro ns] := by
    have e3 : ∃ x : Nat, x ≤ K ∧ eCB gMin2 (aCons (eIt gLen (eVar 0)) (aCons (eC (.int K)) aNil)) e [.fro ns] = .ok (.int x) [.fro ns] := by
      rw [ap_cb, acons_ok e1 (acons_ok (d := .int K) rfl rfl), ap_bindOk]
      by_cases h3 : K < ns.length
      · refine ⟨K, by omega, ?_⟩
        show opt (some (Val.int (if (K : Int) < (ns.length : Int) then K else (ns.length : Int)))) _ = _
        rw [if_pos (by omega)]; rfl
      · refine ⟨ns.length, by omega, ?_⟩
        show opt (some (Val.int (if (K : Int) < (ns.length : Int) then K else (ns.length : Int)))) _ = _
        rw [if_neg (by omega)]; rfl
    obtain ⟨x, x3, ex⟩ := e3
    rw [ap_cb, acons_ok (d := .int 1) rfl (acons_ok ex rfl), ap_bindOk]
    by_cases h1 : 1 < x
    · refine ⟨x, by omega, x3, ?_⟩
      show opt (some (Val.int (if (x : Int) > 1 then (x : Int) else 1))) _ = _
      rw [if_pos (by omega)]; rfl
    · refine ⟨1, by omega, by omega, ?_⟩
      show opt (some (Val.int (if (x : Int) > 1 then (x : Int) else 1))) _ = _
      rw [if_neg (by omega)]; rfl
  refine ⟨m, m3, ?_⟩
  unfold iRng1V
  rw [acons_ok e2 rfl, ap_bindOk]
  show (if rngOk (m : Int) = true then Res.ok (srcFix (rangeV 0 (m : Int).toNat)) [.fro ns] else Res.stuck) = _
  rw [if_pos (by unfold rngOk; exact decide_eq_true ⟨by omega, by omega⟩)]
  rfl
/-- each cell leaves the heap as it was, but for what is younger -/
theorem cell_loop (ns : List Int) (K : Nat) (h1K : 1 ≤ K) (hK : K ≤ 63) {dead : List Nat} {b : Val → En → Option En} {body : En → Hea → SRes} {e : En} (e0 : e[0]? = some (some (.ref 0)))
    (w : ∀ k : Nat, k < K → ∃ e1 e2 h2, b (.int k) e = some e1 ∧ body e1 [.fro ns] = .nx e2 h2 ∧ gcN dead 1 e2 h2 = (e, [.fro ns])) :
    sForK dead (iRng1V (aCons (eCB gMax2 (aCons (eC (.int 1)) (aCons (eCB gMin2 (aCons (eIt gLen (eVar 0)) (aCons (eC (.int K)) aNil))) aNil))) aNil)) b body e [.fro ns] = .nx e [.fro ns] := by
  obtain ⟨m, hm, em⟩ := cells ns K h1K hK e e0
  rw [forK_eq em]
  refine forKL_const fun v hv => ?_
  unfold rangeV at hv
  obtain ⟨k, hk, rfl⟩ := List.mem_map.mp hv
  rw [List.mem_range] at hk
  rw [Int.zero_add]
  exact w k (by omega)
end Lad
end
/-! ## K78P1 -/
section
set_option maxRecDepth 100000
set_option maxHeartbeats 2000000
namespace K78
open PySem L2 Lad
def tl : En → Hea → SRes := (sSeq (sSet 5 (eLst (lDisp (aCons (eTup (aCons (eVar 3) (aCons (eVar 3) (aCons (eC (.str "draw")) (aCons (eVar 3) (aCons (eVar 3) aNil)))))) (aCons (eTup (aCons (eVar 4) (aCons (eVar 3) (aCons (eC (.str "upper")) (aCons (eVar 4) (aCons (eVar 4) aNil)))))) aNil)))))
  (sSeq (sSet 6 (eNew (lDisp (aCons (eC .non) (aCons (eC (.int 5)) (aCons (eCutA (eBin oIx (eVar 5) (eC (.int 0))) none (some (eC (.int 4)))) (aCons (eLst (lOf (eBin oIx (eVar 5) (eC (.int 0))))) (aCons (eTup (aCons (eBin oSub (eVar 3) (eC (.int 1))) (aCons (eBin oSub (eVar 3) (eC (.int 1))) (aCons (eC (.str "draw")) (aCons (eVar 3) (aCons (eVar 3) aNil)))))) (aCons (eTup (aCons (eVar 3) (aCons (eBin oAdd (eVar 4) (eC (.int 1))) (aCons (eC (.str "draw")) (aCons (eVar 3) (aCons (eVar 3) aNil)))))) aNil)))))))))
  (sSeq (sSet 6 (eNew (lAdd (eVar 6) (eLst (lDisp (aCons (eTup (aCons (eVar 3) (aCons (eVar 3) (aCons (eC (.str "win")) (aCons (eVar 3) (aCons (eVar 3) aNil)))))) (aCons (eTup (aCons (eVar 3) (aCons (eVar 3) (aCons (eC .non) (aCons (eVar 3) (aCons (eVar 3) aNil)))))) (aCons (eTup (aCons (eVar 3) (aCons (eVar 3) (aCons (eC (.str "draw")) (aCons (eBin oAdd (eVar 4) (eC (.int 1))) (aCons (eVar 3) aNil)))))) aNil))))))))
  (sSeq (sSet 6 (eNew (lAdd (eVar 6) (eLst (lDisp (aCons (eTup (aCons (eVar 3) (aCons (eVar 3) (aCons (eC (.str "draw")) (aCons (eVar 3) (aCons (eBin oSub (eVar 3) (eC (.int 1))) aNil)))))) (aCons (eTup (aCons (eVar 3) (aCons (eVar 3) (aCons (eC (.str "draw")) (aCons (eC (.bl true)) (aCons (eVar 3) aNil)))))) (aCons (eTup (aCons (eVar 3) (aCons (eVar 3) (aCons (eLst (lDisp (aCons (eC (.str "draw")) aNil))) (aCons (eVar 3) (aCons (eVar 3) aNil)))))) aNil))))))))
  (sSeq (sIf (eBin oGt (eVar 4) (eVar 3)) (sEx (eApp (eVar 6) (eTup (aCons (eVar 3) (aCons (eVar 4) (aCons (eC (.str "draw")) (aCons (eVar 3) (aCons (eVar 4) aNil)))))))) sNil)
  (sSeq (sForK [7, 8] (iRng1V (aCons (eC (.int 5)) aNil)) (gN 7) l_law_4)
  (sSeq (sForK [8] (iTmp (lDisp (aCons (eC .non) (aCons (eBin oSub (eVar 3) (eC (.int 1))) (aCons (eBin oAdd (eVar 4) (eC (.int 1))) (aCons (eC (.bl true)) aNil)))))) (gN 8) l_law_5)
  (sSeq (sForK [8] (iTmp (lDisp (aCons (eC .non) (aCons (eBin oSub (eVar 3) (eC (.int 1))) (aCons (eBin oAdd (eVar 4) (eC (.int 1))) (aCons (eC (.bl true)) aNil)))))) (gN 8) l_law_6)
  (sSeq (sIf (eAnd (eBin oGt (eVar 4) (eVar 3)) (eBin oNe (eCall c__law_told (aCons (eC (.int 4)) (aCons (eVar 3) (aCons (eVar 4) (aCons (eVar 5) (aCons (eLst (lDisp (aCons (eVar 3) (aCons (eVar 4) (aCons (eC (.str "draw")) aNil))))) aNil)))))) (eLst (lDisp (aCons (eC (.str "game")) (aCons (eCB gReprD (aCons (eVar 4) aNil)) aNil)))))) (sRet (eC (.bl false))) sNil)
  (sForK [8] (iTmp (lDisp (aCons (eC .non) (aCons (eC (.str "win")) (aCons (eC (.int 5)) (aCons (eLst (lDisp (aCons (eC (.str "draw")) aNil))) aNil)))))) (gN 8) l_law_7))))))))))
def fin8 (r : SRes) : Option (En × Hea) := match r with
  | .nx e h => some (gcN [1, 2, 3, 4, 5, 6, 7, 8] 1 e h)
  | _ => none
def E0 : En := [some (.ref 0), none, none, none, none, none, none, none, none]
def At (ns : List Int) (a b : Int) (k : Int) (low high : Int) : Prop := fin8 (tl [some (.ref 0), some (.int k), some (.ref 1), some (.int low), some (.int high), none, none, none, none] (Hp2 ns a b [])) = some (E0, [.fro ns])
theorem far (ns : List Int) : c__law_far_right [] [.fro ns] = .ok (.bl true) [.fro ns] := by kernel_rfl
theorem at00 (ns : List Int) (a b k : Int) : At ns a b k 2 2 := by unfold At; kernel_rfl
theorem at01 (ns : List Int) (a b k : Int) : At ns a b k 2 3 := by unfold At; kernel_rfl
theorem at02 (ns : List Int) (a b k : Int) : At ns a b k 2 4 := by unfold At; kernel_rfl
theorem at03 (ns : List Int) (a b k : Int) : At ns a b k 2 5 := by unfold At; kernel_rfl
theorem at04 (ns : List Int) (a b k : Int) : At ns a b k 2 6 := by unfold At; kernel_rfl
end K78
end
/-! ## K78P2 -/
section
set_option maxRecDepth 100000
set_option maxHeartbeats 2000000
namespace K78
open PySem L2 Lad
theorem at10 (ns : List Int) (a b k : Int) : At ns a b k 3 3 := by unfold At; kernel_rfl
theorem at11 (ns : List Int) (a b k : Int) : At ns a b k 3 4 := by unfold At; kernel_rfl
theorem at12 (ns : List Int) (a b k : Int) : At ns a b k 3 5 := by unfold At; kernel_rfl
theorem at13 (ns : List Int) (a b k : Int) : At ns a b k 3 6 := by unfold At; kernel_rfl
theorem at14 (ns : List Int) (a b k : Int) : At ns a b k 3 7 := by unfold At; kernel_rfl
end K78
end
/-! ## K78P3 -/
section
set_option maxRecDepth 100000
set_option maxHeartbeats 2000000
namespace K78
open PySem L2 Lad
theorem at20 (ns : List Int) (a b k : Int) : At ns a b k 4 4 := by unfold At; kernel_rfl
theorem at21 (ns : List Int) (a b k : Int) : At ns a b k 4 5 := by unfold At; kernel_rfl
theorem at22 (ns : List Int) (a b k : Int) : At ns a b k 4 6 := by unfold At; kernel_rfl
theorem at23 (ns : List Int) (a b k : Int) : At ns a b k 4 7 := by unfold At; kernel_rfl
theorem at24 (ns : List Int) (a b k : Int) : At ns a b k 4 8 := by unfold At; kernel_rfl
end K78
end
/-! ## K78P4 -/
section
set_option maxRecDepth 100000
set_option maxHeartbeats 2000000
namespace K78
open PySem L2 Lad
theorem at30 (ns : List Int) (a b k : Int) : At ns a b k 5 5 := by unfold At; kernel_rfl
theorem at31 (ns : List Int) (a b k : Int) : At ns a b k 5 6 := by unfold At; kernel_rfl
theorem at32 (ns : List Int) (a b k : Int) : At ns a b k 5 7 := by unfold At; kernel_rfl
theorem at33 (ns : List Int) (a b k : Int) : At ns a b k 5 8 := by unfold At; kernel_rfl
theorem at34 (ns : List Int) (a b k : Int) : At ns a b k 5 9 := by unfold At; kernel_rfl
end K78
end
/-! ## K78P5 -/
section
set_option maxRecDepth 100000
set_option maxHeartbeats 2000000
namespace K78
open PySem L2 Lad
theorem at40 (ns : List Int) (a b k : Int) : At ns a b k 6 6 := by unfold At; kernel_rfl
theorem at41 (ns : List Int) (a b k : Int) : At ns a b k 6 7 := by unfold At; kernel_rfl
theorem at42 (ns : List Int) (a b k : Int) : At ns a b k 6 8 := by unfold At; kernel_rfl
theorem at43 (ns : List Int) (a b k : Int) : At ns a b k 6 9 := by unfold At; kernel_rfl
theorem at44 (ns : List Int) (a b k : Int) : At ns a b k 6 10 := by unfold At; kernel_rfl
end K78
end
/-! ## K78P6 -/
section
set_option maxRecDepth 100000
set_option maxHeartbeats 2000000
namespace K78
open PySem L2 Lad
theorem at_all (ns : List Int) (a b k : Int) {l h : Int} (l0 : 0 ≤ l) (l1 : l < 5) (h0 : 0 ≤ h) (h1 : h < 5) : At ns a b k (2 + l) (2 + l + h) := by
  have cl : l = 0 ∨ l = 1 ∨ l = 2 ∨ l = 3 ∨ l = 4 := by omega
  have ch : h = 0 ∨ h = 1 ∨ h = 2 ∨ h = 3 ∨ h = 4 := by omega
  rcases cl with rfl | rfl | rfl | rfl | rfl <;> rcases ch with rfl | rfl | rfl | rfl | rfl
  · exact at00 ns a b k
  · exact at01 ns a b k
  · exact at02 ns a b k
  · exact at03 ns a b k
  · exact at04 ns a b k
  · exact at10 ns a b k
  · exact at11 ns a b k
  · exact at12 ns a b k
  · exact at13 ns a b k
  · exact at14 ns a b k
  · exact at20 ns a b k
  · exact at21 ns a b k
  · exact at22 ns a b k
  · exact at23 ns a b k
  · exact at24 ns a b k
  · exact at30 ns a b k
  · exact at31 ns a b k
  · exact at32 ns a b k
  · exact at33 ns a b k
  · exact at34 ns a b k
  · exact at40 ns a b k
  · exact at41 ns a b k
  · exact at42 ns a b k
  · exact at43 ns a b k
  · exact at44 ns a b k
theorem body (ns : List Int) (k : Nat) (hk : k < 64) : ∃ (e : En) (h : Hea), l_law_8 [some (.ref 0), some (.int k), none, none, none, none, none, none, none] [.fro ns] = .nx e h ∧ gcN [1, 2, 3, 4, 5, 6, 7, 8] 1 e h = (E0, [.fro ns]) := by
  obtain ⟨a, b, P, e1⟩ := Drw.poolB_ok ns k hk
  obtain ⟨l, a1, b1, l0, l1, P1, e2⟩ := Drw.draw_ok ns [] (m := 5) P (by decide) (by decide)
  obtain ⟨h, a2, b2, h0, h1, P2, e3⟩ := Drw.draw_ok ns [] (m := 5) P1 (by decide) (by decide)
  have e2 : c__law_draw [.ref 1, .int 5] (Hp2 ns a b []) = .ok (.int l) (Hp2 ns a1 b1 []) := e2
  have e3 : c__law_draw [.ref 1, .int 5] (Hp2 ns a1 b1 []) = .ok (.int h) (Hp2 ns a2 b2 []) := e3
  have q := at_all ns a2 b2 k l0 l1 h0 h1
  unfold At fin8 at q
  split at q
  · rename_i e g hq
    refine ⟨e, g, ?_, Option.some.inj q⟩
    unfold l_law_8
    generalize (k : Int) = kz at *
    refine seq_set (d := .ref 1) (h1 := Hp2 ns a b []) (call_eq rfl e1) ?_
    refine seq_set (d := .int (2 + l)) (h1 := Hp2 ns a1 b1 []) (bin_ok (d := .int 2) (h1 := Hp2 ns a b []) rfl (call_eq rfl e2) (Lad.op_add _ _ _)) ?_
    refine seq_set (d := .int (2 + l + h)) (h1 := Hp2 ns a2 b2 []) (bin_ok (d := .int (2 + l)) (h1 := Hp2 ns a1 b1 []) rfl (call_eq rfl e3) (Lad.op_add _ _ _)) ?_
    exact hq
  · cases q
theorem plain : Plain := by
  intro ns hl
  refine ⟨[.fro ns], (run_rt (fn := fin) (d := .bl true) (h' := [.fro ns]) rfl ?_).trans (fin_same _ _)⟩
  unfold b_law
  have e0 : sIf (eUn oNot (eCall0 c__law_far_right)) (sRet (eC (.bl false))) sNil (startE 9 [.ref 0]) [.fro ns] = .nx (startE 9 [.ref 0]) [.fro ns] := by
    have : eCall0 c__law_far_right (startE 9 [.ref 0]) [.fro ns] = .ok (.bl true) [.fro ns] := far ns
    unfold sIf eUn
    rw [this]
    rfl
  refine seq_nx (e1 := startE 9 [.ref 0]) (h1 := [.fro ns]) e0 ?_
  refine seq_nx (e1 := startE 9 [.ref 0]) (h1 := [.fro ns]) ?_ rfl
  refine cell_loop ns 2 (by decide) (by decide) rfl fun k hk => ?_
  obtain ⟨e, h, eb, el⟩ := body ns k (by omega)
  exact ⟨[some (.ref 0), some (.int k), none, none, none, none, none, none, none], e, h, rfl, eb, el⟩
end K78
end
theorem PySem.Challenge.cw_liftedladders_k78_told_refused_holds : PySem.Challenge.rw_liftedladders_k78_told_refused.Holds :=
  K78.holds_of K78.plain
