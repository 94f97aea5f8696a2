import PyProof.Rows.All
import Wide.All
import Wide.FinOn
import HandS.TupAny
import HandS.TupMul
import HandS.Iter
import KE.GoesEnum
import KE.GoesZip
import KE.GoesMore
import HandS.ForMost
import HandS.ForExc
import HandS.Wide
import HandS.Style
import HandS.Flow
import HandS.Deep
import HandS.TupLe
import HandS.IsInst
import HandS.Star
import HandS.Dict
import KE.KDictKeyed
import KE.KeyNested
import HandS.RaiseMore
import HandS.WordsExc
import KE.KExcSuper
import PyProof.ExcBaseAll.LookupError
import HandS.ExcField
import HandS.ExcIs
import KE.KExcIs
import HandS.HeadHook2
import OpenK.KDescr
import HandS.Zip
import HandS.List
import KE.KCallOwn
import HandS.SlotsOwn
import HandS.Head0
import HandS.Head1
import HandS.Head2
import HandS.HeadEnd
import HandS.Strs
import HandS.MakeKwOnly
import HandS.GenList
import HandS.TryMany
import HandS.Conv
import HandS.SetBool
import KE.KDictZip
import HandS.NoneIn
import KE.KRevSl
import HandS.DictComp
import KE.KDictCopyH
import KE.KDictDisplayH
import HandS.ExcValue
import PySem.Challenge.RW_liftedladders_k22_errors
set_option Elab.async false
set_option linter.all false
section
set_option maxRecDepth 100000
set_option maxHeartbeats 2000000
namespace L2
open PySem PySem.Spec PyProof.Rows
/-- a new tuple's object -/
abbrev tuO (us : List Value) : Obj := { cls := .type "tuple", data := .seq us.toArray }
section
variable {X : Cx} {pins : List (Addr × Obj)} {σ : St} {H : Hp} {s : Shared} {ys : List V} {us : List Value}
theorem Inv.newTup {tk : Nat} (J : Inv X pins σ H s) (r : Vals ys us) (z : ys.length ≤ sizeLine) : Inv X pins σ (upd H s.heap.objs.size (.frz (tuO us) (.tup ys))) { s with heap := s.heap.push (tuO us), toks := tk } :=
  J.laid (fun c o w => Heap.get?_push_of_some _ w) (Nat.le_refl _) ⟨Heap.get?_push_size _ rfl, z, us, r, IsTup.new _ _⟩
theorem Inv.free0 (J : Inv X pins σ H s) : H s.heap.objs.size = none := J.hok.fresh (Nat.le_refl _)
end
/-- what is wanted of a new tuple -/
def NewT (H : Hp) (ys : List V) (Q : VK) : Prop := ∀ (p : Addr) (ob : Obj), H p = none → ob.dict = none → Q (.ref p) (upd H p (.frz ob (.tup ys)))
section
variable {X : Cx} {es : List Expr} {t : TA} {pos : Pos}
def tTupS (t : TA) : TE := fun σ H Q => t σ H fun ys H1 => ys.length ≤ sizeLine ∧ NewT H1 ys Q
theorem pe_tupS {x1} (a : PA X es t) : PE X (.Tuple es x1 pos) (tTupS t) := ⟨fun pins s σ H Q J w => by
  refine wpAny_Tuple_spliced (thn (a.run pos pins s σ H _ J w) fun us s1 z => ?_)
  obtain ⟨ys, H1, J1, r, l, q⟩ := z
  exact ⟨by rw [← r.length]; exact l, .ref s1.heap.objs.size, _, J1.newTup r l, rfl, q _ _ J1.free0 rfl⟩⟩
def rCatS (K : PySem.W.Frag) : R2 := fun x y H Q => ∃ a b ps qs, x = .ref a ∧ y = .ref b ∧ SqT K H a ps ∧ SqT K H b qs ∧ ps.length + qs.length ≤ sizeLine ∧
  (ps = [] → Q (.ref b) H) ∧ (ps ≠ [] → qs = [] → Q (.ref a) H) ∧ (ps ≠ [] → qs ≠ [] → NewT H (ps ++ qs) Q)
theorem op_catS : OpR X (binaryOp .Add) (rCatS X.K) := by
  rintro pins s σ H x y v u Q J e1 e2 ⟨a, b, ps, qs, rfl, rfl, sa, sb, z, q0, q1, q2⟩
  cases e1
  cases e2
  obtain ⟨us, r1, p1, _⟩ := J.tuple sa
  obtain ⟨ws, r2, p2, _⟩ := J.tuple sb
  by_cases n1 : ps = []
  · subst n1
    cases r1
    exact cat_tup0 p1 p2 ⟨.ref b, H, J, rfl, q0 rfl⟩
  · refine HT.cat_tup p1 p2 (fun w => n1 (r1.nil_iff.mp w)) (fun w => ⟨.ref a, H, J, rfl, q1 n1 (r2.nil_iff.mp w)⟩) (fun w => ?_) (by rw [← r1.length, ← r2.length]; exact z)
    exact ⟨.ref s.heap.objs.size, _, J.newTup (tk := s.toks) (r1.append r2) (by rw [List.length_append]; exact z), rfl, q2 n1 (fun k => w (r2.nil_iff.mpr k)) _ _ J.free0 rfl⟩
end
end L2
end
section
set_option maxRecDepth 100000
set_option maxHeartbeats 1000000
namespace Lad
open PySem L2
/-- lst, dic, obj: a list, a dict, an instance that nothing changes any more; ref: one of the evaluator's heap -/
inductive Val where
  | non | bl (b : Bool) | int (i : Int) | str (s : Str) | tup (xs : List Val) | lst (xs : List Val) | dic (t : Bool) (ks vs : List Val) | obj (c : Nat) (ns : List Nat) (vs : List Val) | ref (i : Nat) | exn (c : Nat) (d : Val) | err (c : Nat) (d : Val)
inductive Ob where
  | lst (xs : List Val) | fro (ns : List Int) | dcK (kvs : List (Val × Val)) | dcT (kvs : List (Val × Val)) | ins (c : Nat) (fs : List (Nat × Val)) | dcL (kvs : List (Val × Val)) | dcM (kvs : List (Val × Val))
abbrev Hea := List Ob
abbrev En := List (Option Val)
inductive Res (α : Type) where
  | ok (a : α) (h : Hea) | exc (c : Nat) (d : Val) (h : Hea) | stuck
def Res.bind {α β : Type} (r : Res α) (k : α → Hea → Res β) : Res β := match r with
  | .ok a h => k a h
  | .exc c d h => .exc c d h
  | .stuck => .stuck
/-- the end of a statement -/
inductive SRes where
  | nx (e : En) (h : Hea) | rt (v : Val) (h : Hea) | bk (e : En) (h : Hea) | ct (e : En) (h : Hea) | exc (c : Nat) (d : Val) (e : En) (h : Hea) | stuck
/-- what the program's top has made: the written part, the classes' addresses, the names of attributes, the field of an exception class -/
structure Sy where
  K : PySem.W.Frag
  ca : Nat → Addr
  nm : Nat → Str
  fld : Nat → Str
  /-- the program, the world (for the hashes of keys) -/
  P : Program
  w : World
  /-- the error that is handled: where it is, its class, its dict -/
  ex : Option (Addr × Nat × Addr)
/-- what the evaluator's heap holds: by numbers; hidden (being made) -/
structure Own where
  nm : List Addr
  hd : List Addr
def Own.add (ρ : Own) (p : Addr) : Own := ⟨ρ.nm ++ [p], ρ.hd⟩
def Own.hide (ρ : Own) (p : Addr) : Own := ⟨ρ.nm, p :: ρ.hd⟩
def Off (ρ : Own) (a : Addr) : Prop := ∀ i : Nat, ρ.nm[i]? ≠ some a
/-- neither held nor being made -/
def Fz (ρ : Own) (a : Addr) : Prop := Off ρ a ∧ a ∉ ρ.hd
def keyVal : Key → Val
  | .inl i => .int i
  | .inr s => .str s
abbrev kvK : Key → Val := keyVal
/-- a key that is a tuple: as deep as n -/
def nkAll (f : Val → Option NestedKey) : List Val → Option (List NestedKey)
  | [] => some []
  | d :: ds => match f d, nkAll f ds with
    | some k, some ks => some (k :: ks)
    | _, _ => none
def nkF : Nat → Val → Option NestedKey
  | n + 1, .tup xs => (nkAll (nkF n) xs).map .tup
  | _, .int i => some (.num i)
  | _, .bl b => some (.num (if b = true then 1 else 0))
  | _, .str x => some (.text x)
  | _, .non => some .none
  | _, _ => none
def toNK : Val → Option NestedKey
  | .tup xs => nkF 8 (.tup xs)
  | _ => none
/-- a dict whose keys are tuples: the keys, where their tuples stand, the values -/
def dnO (P : Program) (w : World) (a : Addr) (ps : List (NestedKey × Addr × V)) : HO := .ext fun h => ps.length ≤ sizeLine ∧ (a == sysModules) = false ∧
  ∃ xs : List (NestedKey × Addr × Value), Paired (fun (p : NestedKey × Addr × V) (q : NestedKey × Addr × Value) => p.1 = q.1 ∧ p.2.1 = q.2.1 ∧ RelV p.2.2 q.2.2) ps xs ∧
    ∃ o es ep, h.get? a = some o ∧ o.ExactDict ∧ o.data = .dict es ep ∧ es.toList = xs.map (entryOfKey (nestedKind P w)) ∧ (xs.map (·.1)).Nodup
/-- a dict -/
def IsDi (o : HO) : Prop := (∃ ps, o = .dK ps) ∨ ∃ P w a ps, o = dnO P w a ps
/-- sealed, or as it was -/
def Sl (o o' : HO) : Prop := o' = o ∨ (IsDi o ∧ ∃ ob, o' = .frz ob o)
theorem Sl.rfl {o : HO} : Sl o o := .inl (Eq.refl _)
theorem isDi_frz {o : HO} {ob : Obj} : ¬ IsDi (.frz ob o) := fun h => by
  rcases h with ⟨_, e⟩ | ⟨_, _, _, _, e⟩
  · cases e
  · unfold dnO at e; cases e
theorem Sl.trans {a b c : HO} (h : Sl a b) (k : Sl b c) : Sl a c := by
  rcases h with rfl | ⟨i, ob, rfl⟩
  · exact k
  · rcases k with rfl | ⟨j, _⟩
    · exact .inr ⟨i, ob, Eq.refl _⟩
    · exact (isDi_frz j).elim
theorem Sl.lst {xs : List V} {o : HO} (h : Sl (.lst xs) o) : o = .lst xs := by
  rcases h with h | ⟨⟨_, e⟩ | ⟨_, _, _, _, e⟩, _⟩
  · exact h
  · cases e
  · unfold dnO at e; cases e
theorem Sl.ins {C dx : Addr} {fs : List (Str × V)} {o : HO} (h : Sl (.ins C dx fs) o) : o = .ins C dx fs := by
  rcases h with h | ⟨⟨_, e⟩ | ⟨_, _, _, _, e⟩, _⟩
  · exact h
  · cases e
  · unfold dnO at e; cases e
theorem Sl.rd {H H' : Hp} {a : Addr} {u : HO} (k : ∀ ob v, H a = some (.frz ob v) → H' a = some (.frz ob v)) (hu : IsDi u) (f : ∀ o, H a = some o → ∃ o', H' a = some o' ∧ Sl o o') (h : Rd H a u) : Rd H' a u := by
  rcases h with h | ⟨ob, h⟩
  · obtain ⟨o', e, s⟩ := f _ h
    rcases s with rfl | ⟨_, ob, rfl⟩
    · exact .inl e
    · exact .inr ⟨ob, e⟩
  · exact .inr ⟨ob, k _ _ h⟩
/-- a tuple whose object is known to have no dict -/
def StT (K : PySem.W.Frag) (H : Hp) (a : Addr) (vs : List V) : Prop := (∃ ob, H a = some (.frz ob (.tup vs)) ∧ ob.dict = none) ∨
  ∃ (o : PySem.Obj) (its : Array Value) (n : Nat), K.lookup a = some o ∧ o.cls = .type "tuple" ∧ o.dict = none ∧ o.data = .seq its n ∧ its.size ≤ sizeLine ∧ Vals vs its.toList
theorem StT.sq {K : PySem.W.Frag} {H : Hp} {a : Addr} {vs : List V} (h : StT K H a vs) : SqT K H a vs := by
  rcases h with ⟨ob, h, _⟩ | ⟨o, its, n, h1, h2, _, h3, h4, h5⟩
  · exact .inl (.inr ⟨ob, h⟩)
  · exact .inr ⟨o, its, n, h1, h2, h3, h4, h5⟩
/-- an error of the class at C, its dict at dx, held as a value -/
def ErO (C : Addr) (a dx : Addr) : HO := .ext fun h => ∃ (oe : PySem.Obj) (vs : Array Value), h.get? a = some oe ∧ Zc (.ref C) (some dx) oe ∧ oe.data = .fields vs
mutual
inductive Rep (S : Sy) (ρ : Own) (H : Hp) : Val → V → Prop where
  | non : Rep S ρ H .non .non
  | bl (b : Bool) : Rep S ρ H (.bl b) (.bl b)
  | int (i : Int) : Rep S ρ H (.int i) (.int i)
  | str (s : Str) : Rep S ρ H (.str s) (.str s)
  | tup {a : Addr} {ds : List Val} {vs : List V} : StT S.K H a vs → Reps S ρ H ds vs → Rep S ρ H (.tup ds) (.ref a)
  | lst {a : Addr} {ds : List Val} {vs : List V} : Fz ρ a → H a = some (.lst vs) → Reps S ρ H ds vs → Rep S ρ H (.lst ds) (.ref a)
  | dicK {a : Addr} {ds : List Val} {ps : List (Key × V)} {ks : List Val} {vs : List V} : Fz ρ a → Rd H a (.dK ps) → ks = ps.map (fun p => kvK p.1) → vs = ps.map (·.2) → Reps S ρ H ds vs → Rep S ρ H (.dic false ks ds) (.ref a)
  | dicT {a : Addr} {ds : List Val} {ps : List (NestedKey × Addr × V)} {ks : List Val} {us vs : List V} : Fz ρ a → Rd H a (dnO S.P S.w a ps) → us = ps.map (fun p => V.ref p.2.1) → ks.map toNK = ps.map (fun p => some p.1) → Reps S ρ H ks us → vs = ps.map (·.2.2) → Reps S ρ H ds vs → Rep S ρ H (.dic true ks ds) (.ref a)
  | obj {a dx : Addr} {c : Nat} {ns : List Nat} {ds : List Val} {ps : List (Str × V)} {vs : List V} : Fz ρ a → H a = some (.ins (S.ca c) dx ps) → ps.map (·.1) = ns.map S.nm → vs = ps.map (·.2) → Reps S ρ H ds vs → Rep S ρ H (.obj c ns ds) (.ref a)
  | ref {i : Nat} {a : Addr} : ρ.nm[i]? = some a → Rep S ρ H (.ref i) (.ref a)
  | exn {c : Nat} {a dx : Addr} {d : Val} {v : V} : S.ex = some (a, c, dx) → H dx = some (.xd [(S.fld c, v)]) → Rep S ρ H d v → Rep S ρ H (.exn c d) (.ref a)
  | err {c : Nat} {a dx : Addr} {d : Val} {v : V} : Fz ρ a → Rd H a (ErO (S.ca c) a dx) → H dx = some (.xd [(S.fld c, v)]) → Rep S ρ H d v → Rep S ρ H (.err c d) (.ref a)
inductive Reps (S : Sy) (ρ : Own) (H : Hp) : List Val → List V → Prop where
  | nil : Reps S ρ H [] []
  | cons {d : Val} {v : V} {ds : List Val} {vs : List V} : Rep S ρ H d v → Reps S ρ H ds vs → Reps S ρ H (d :: ds) (v :: vs)
end
/-- tuples stay -/
def Kp (S : Sy) (H H' : Hp) : Prop := (∀ a xs, SqT S.K H a xs → SqT S.K H' a xs) ∧ (∀ a fs, H a = some (.xd fs) → H' a = some (.xd fs)) ∧ ∀ a ob u, H a = some (.frz ob u) → H' a = some (.frz ob u)
theorem Kp.rfl {S : Sy} {H : Hp} : Kp S H H := ⟨fun _ _ h => h, fun _ _ h => h, fun _ _ _ h => h⟩
theorem Kp.trans {S : Sy} {H H1 H2 : Hp} (a : Kp S H H1) (b : Kp S H1 H2) : Kp S H H2 := ⟨fun x xs h => b.1 x xs (a.1 x xs h), fun x xs h => b.2.1 x xs (a.2.1 x xs h), fun x ob u h => b.2.2 x ob u (a.2.2 x ob u h)⟩
theorem Kp.st {S : Sy} {H H' : Hp} (k : Kp S H H') {a : Addr} {vs : List V} (h : StT S.K H a vs) : StT S.K H' a vs := by
  rcases h with ⟨ob, h, z⟩ | h
  · exact .inl ⟨ob, k.2.2 a ob _ h, z⟩
  · exact .inr h
/-- ρ' goes on from ρ -/
def Sub (ρ ρ' : Own) : Prop := ∀ (i : Nat) (a : Addr), ρ.nm[i]? = some a → ρ'.nm[i]? = some a
theorem Sub.rfl {ρ : Own} : Sub ρ ρ := fun _ _ h => h
theorem Sub.trans {ρ ρ1 ρ2 : Own} (a : Sub ρ ρ1) (b : Sub ρ1 ρ2) : Sub ρ ρ2 := fun i x h => b i x (a i x h)
theorem Sub.app {ρ : Own} {p : Addr} : Sub ρ (ρ.add p) := fun i a h => by
  have hi := (List.getElem?_eq_some_iff.mp h).1
  show (ρ.nm ++ [p])[i]? = some a
  rw [List.getElem?_append_left hi]; exact h
/-- what stands for data goes on to do so -/
structure Mv (S : Sy) (ρ : Own) (H : Hp) (ρ' : Own) (H' : Hp) : Prop where
  sub : Sub ρ ρ'
  kp : Kp S H H'
  fz : ∀ a o, H a = some o → Fz ρ a → (∃ o', H' a = some o' ∧ Sl o o') ∧ Fz ρ' a
theorem Mv.rfl {S : Sy} {ρ : Own} {H : Hp} : Mv S ρ H ρ H := ⟨.rfl, .rfl, fun _ _ e f => ⟨⟨_, e, .rfl⟩, f⟩⟩
theorem Mv.trans {S : Sy} {ρ ρ1 ρ2 : Own} {H H1 H2 : Hp} (a : Mv S ρ H ρ1 H1) (b : Mv S ρ1 H1 ρ2 H2) : Mv S ρ H ρ2 H2 := ⟨a.sub.trans b.sub, a.kp.trans b.kp, fun x o e f => let ⟨⟨o1, e1, s1⟩, f1⟩ := a.fz x o e f; let ⟨⟨o2, e2, s2⟩, f2⟩ := b.fz x o1 e1 f1; ⟨⟨o2, e2, s1.trans s2⟩, f2⟩⟩
theorem Mv.lst {S : Sy} {ρ ρ' : Own} {H H' : Hp} (m : Mv S ρ H ρ' H') {a : Addr} {xs : List V} (f : Fz ρ a) (h : H a = some (.lst xs)) : H' a = some (.lst xs) := by
  obtain ⟨⟨o, e, s⟩, _⟩ := m.fz a _ h f
  rw [s.lst] at e; exact e
theorem Mv.ins {S : Sy} {ρ ρ' : Own} {H H' : Hp} (m : Mv S ρ H ρ' H') {a : Addr} {C dx : Addr} {fs : List (Str × V)} (f : Fz ρ a) (h : H a = some (.ins C dx fs)) : H' a = some (.ins C dx fs) := by
  obtain ⟨⟨o, e, s⟩, _⟩ := m.fz a _ h f
  rw [s.ins] at e; exact e
theorem Rd.mv {S : Sy} {ρ ρ' : Own} {H H' : Hp} (m : Mv S ρ H ρ' H') {a : Addr} {o : HO} (i : IsDi o) (f : Fz ρ a) (h : Rd H a o) : Rd H' a o := Sl.rd (m.kp.2.2 a) i (fun o e => (m.fz a o e f).1) h
theorem Rd.mvx {S : Sy} {ρ ρ' : Own} {H H' : Hp} (m : Mv S ρ H ρ' H') {a : Addr} {o : HO} (f : Fz ρ a) (h : Rd H a o) : Rd H' a o := by
  rcases h with h | ⟨ob, h⟩
  · obtain ⟨⟨o', e, s⟩, _⟩ := m.fz a _ h f
    rcases s with rfl | ⟨_, ob, rfl⟩
    · exact .inl e
    · exact .inr ⟨ob, e⟩
  · exact .inr ⟨ob, m.kp.2.2 a _ _ h⟩
theorem Rd.fz {S : Sy} {ρ ρ' : Own} {H H' : Hp} (m : Mv S ρ H ρ' H') {a : Addr} {o : HO} (f : Fz ρ a) (h : Rd H a o) : Fz ρ' a := by
  rcases h with h | ⟨u, h⟩
  · exact (m.fz a _ h f).2
  · exact (m.fz a _ h f).2
theorem isDi_K {ps : List (Key × V)} : IsDi (.dK ps) := .inl ⟨ps, rfl⟩
theorem isDi_N {P : Program} {w : World} {a : Addr} {ps : List (NestedKey × Addr × V)} : IsDi (dnO P w a ps) := .inr ⟨P, w, a, ps, rfl⟩
theorem Rd.there {H : Hp} {a : Addr} {o : HO} (h : Rd H a o) : ∃ u, H a = some u := by
  rcases h with h | ⟨u, h⟩ <;> exact ⟨_, h⟩
mutual
theorem Rep.mono {S : Sy} {ρ ρ' : Own} {H H' : Hp} (m : Mv S ρ H ρ' H') : ∀ {d : Val} {v : V}, Rep S ρ H d v → Rep S ρ' H' d v
  | _, _, .non => .non
  | _, _, .bl b => .bl b
  | _, _, .int i => .int i
  | _, _, .str z => .str z
  | _, _, .tup h r => .tup (m.kp.st h) (Reps.mono m r)
  | _, _, .lst f h r => .lst (m.fz _ _ h f).2 (m.lst f h) (Reps.mono m r)
  | _, _, .dicK f h e1 e2 r => .dicK (Rd.fz m f h) (Rd.mv m isDi_K f h) e1 e2 (Reps.mono m r)
  | _, _, .dicT f h e1 e2 r e3 q => .dicT (Rd.fz m f h) (Rd.mv m isDi_N f h) e1 e2 (Reps.mono m r) e3 (Reps.mono m q)
  | _, _, .obj f h e1 e2 r => .obj (m.fz _ _ h f).2 (m.ins f h) e1 e2 (Reps.mono m r)
  | _, _, .ref h => .ref (m.sub _ _ h)
  | _, _, .exn h1 h2 r => .exn h1 (m.kp.2.1 _ _ h2) (Rep.mono m r)
  | _, _, .err f h1 h2 r => .err (Rd.fz m f h1) (Rd.mvx m f h1) (m.kp.2.1 _ _ h2) (Rep.mono m r)
theorem Reps.mono {S : Sy} {ρ ρ' : Own} {H H' : Hp} (m : Mv S ρ H ρ' H') : ∀ {ds : List Val} {vs : List V}, Reps S ρ H ds vs → Reps S ρ' H' ds vs
  | _, _, .nil => .nil
  | _, _, .cons r t => .cons (Rep.mono m r) (Reps.mono m t)
end
theorem Reps.length {S : Sy} {ρ : Own} {H : Hp} : ∀ {ds : List Val} {vs : List V}, Reps S ρ H ds vs → ds.length = vs.length
  | _, _, .nil => rfl
  | _, _, .cons _ t => congrArg (· + 1) (Reps.length t)
theorem Reps.get {S : Sy} {ρ : Own} {H : Hp} : ∀ {ds : List Val} {vs : List V} {i : Nat} {d : Val}, Reps S ρ H ds vs → ds[i]? = some d → ∃ v, vs[i]? = some v ∧ Rep S ρ H d v
  | _, _, 0, _, .cons r _, e => by
    have e := Option.some.inj e
    subst e
    exact ⟨_, rfl, r⟩
  | _, _, i + 1, _, .cons _ t, e => Reps.get (i := i) t e
  | _, _, i, _, .nil, e => by simp at e
theorem Reps.app {S : Sy} {ρ : Own} {H : Hp} : ∀ {ds es : List Val} {vs us : List V}, Reps S ρ H ds vs → Reps S ρ H es us → Reps S ρ H (ds ++ es) (vs ++ us)
  | _, _, _, _, .nil, t => t
  | _, _, _, _, .cons r q, t => .cons r (Reps.app q t)
theorem Reps.one {S : Sy} {ρ : Own} {H : Hp} {d : Val} {v : V} (r : Rep S ρ H d v) : Reps S ρ H [d] [v] := .cons r .nil
theorem Reps.take {S : Sy} {ρ : Own} {H : Hp} : ∀ {ds : List Val} {vs : List V} (n : Nat), Reps S ρ H ds vs → Reps S ρ H (ds.take n) (vs.take n)
  | _, _, 0, _ => .nil
  | _, _, _ + 1, .nil => .nil
  | _, _, n + 1, .cons r t => .cons r (Reps.take n t)
theorem Reps.drop {S : Sy} {ρ : Own} {H : Hp} : ∀ {ds : List Val} {vs : List V} (n : Nat), Reps S ρ H ds vs → Reps S ρ H (ds.drop n) (vs.drop n)
  | _, _, 0, r => r
  | _, _, _ + 1, .nil => .nil
  | _, _, n + 1, .cons _ t => Reps.drop n t
theorem Reps.set {S : Sy} {ρ : Own} {H : Hp} {d : Val} {v : V} (r : Rep S ρ H d v) : ∀ {ds : List Val} {vs : List V} (n : Nat), Reps S ρ H ds vs → Reps S ρ H (ds.set n d) (vs.set n v)
  | _, _, _, .nil => .nil
  | _, _, 0, .cons _ t => .cons r t
  | _, _, n + 1, .cons q t => .cons q (Reps.set r n t)
theorem Reps.ints {S : Sy} {ρ : Own} {H : Hp} : ∀ {ns : List Int} {vs : List V}, Reps S ρ H (ns.map Val.int) vs → vs = ns.map V.int
  | [], _, .nil => rfl
  | n :: ns, _, .cons r t => by
    cases r
    rw [Reps.ints t]
    rfl
inductive KvR (S : Sy) (ρ : Own) (H : Hp) {κ : Type} (kd : κ → Val) : List (Val × Val) → List (κ × V) → Prop where
  | nil : KvR S ρ H kd [] []
  | cons {k : κ} {d : Val} {v : V} {ds : List (Val × Val)} {vs : List (κ × V)} : Rep S ρ H d v → KvR S ρ H kd ds vs → KvR S ρ H kd ((kd k, d) :: ds) ((k, v) :: vs)
theorem KvR.mono {S : Sy} {ρ ρ' : Own} {H H' : Hp} {κ : Type} {kd : κ → Val} (m : Mv S ρ H ρ' H') : ∀ {ds : List (Val × Val)} {vs : List (κ × V)}, KvR S ρ H kd ds vs → KvR S ρ' H' kd ds vs
  | _, _, .nil => .nil
  | _, _, .cons r t => .cons (r.mono m) (t.mono m)
inductive KvN (S : Sy) (ρ : Own) (H : Hp) : List (Val × Val) → List (NestedKey × Addr × V) → Prop where
  | nil : KvN S ρ H [] []
  | cons {k : NestedKey} {b : Addr} {kd d : Val} {v : V} {ds : List (Val × Val)} {vs : List (NestedKey × Addr × V)} : Rep S ρ H kd (.ref b) → toNK kd = some k → Rep S ρ H d v → KvN S ρ H ds vs → KvN S ρ H ((kd, d) :: ds) ((k, b, v) :: vs)
theorem KvN.mono {S : Sy} {ρ ρ' : Own} {H H' : Hp} (m : Mv S ρ H ρ' H') : ∀ {ds : List (Val × Val)} {vs : List (NestedKey × Addr × V)}, KvN S ρ H ds vs → KvN S ρ' H' ds vs
  | _, _, .nil => .nil
  | _, _, .cons r e q t => .cons (r.mono m) e (q.mono m) (t.mono m)
inductive FsR (S : Sy) (ρ : Own) (H : Hp) : List (Nat × Val) → List (Str × V) → Prop where
  | nil : FsR S ρ H [] []
  | cons {n : Nat} {d : Val} {v : V} {ds : List (Nat × Val)} {vs : List (Str × V)} : Rep S ρ H d v → FsR S ρ H ds vs → FsR S ρ H ((n, d) :: ds) ((S.nm n, v) :: vs)
theorem FsR.mono {S : Sy} {ρ ρ' : Own} {H H' : Hp} (m : Mv S ρ H ρ' H') : ∀ {ds : List (Nat × Val)} {vs : List (Str × V)}, FsR S ρ H ds vs → FsR S ρ' H' ds vs
  | _, _, .nil => .nil
  | _, _, .cons r t => .cons (r.mono m) (t.mono m)
theorem reps_ints {S : Sy} {ρ : Own} {H : Hp} : ∀ ns : List Int, Reps S ρ H (ns.map Val.int) (ns.map V.int)
  | [] => .nil
  | n :: ns => .cons (.int n) (reps_ints ns)
inductive ObR (S : Sy) (ρ : Own) (H : Hp) : Ob → Addr → Prop where
  | lst {xs : List Val} {vs : List V} {a : Addr} : H a = some (.lst vs) → Reps S ρ H xs vs → ObR S ρ H (.lst xs) a
  | fro {ns : List Int} {a : Addr} {o : PySem.Obj} : H a = some (.frz o (.lst (ns.map V.int))) → ObR S ρ H (.fro ns) a
  | dcK {kvs : List (Val × Val)} {vs : List (Key × V)} {a : Addr} : H a = some (.dK vs) → KvR S ρ H kvK kvs vs → ObR S ρ H (.dcK kvs) a
  | dcT {kvs : List (Val × Val)} {vs : List (NestedKey × Addr × V)} {a : Addr} : H a = some (dnO S.P S.w a vs) → KvN S ρ H kvs vs → ObR S ρ H (.dcT kvs) a
  | dcL {kvs : List (Val × Val)} {vs : List (Key × V)} {o : PySem.Obj} {a : Addr} : H a = some (.frz o (.dK vs)) → KvR S ρ H kvK kvs vs → ObR S ρ H (.dcL kvs) a
  | dcM {kvs : List (Val × Val)} {vs : List (NestedKey × Addr × V)} {o : PySem.Obj} {a : Addr} : H a = some (.frz o (dnO S.P S.w a vs)) → KvN S ρ H kvs vs → ObR S ρ H (.dcM kvs) a
  | ins {c : Nat} {fs : List (Nat × Val)} {vs : List (Str × V)} {a dx : Addr} : H a = some (.ins (S.ca c) dx vs) → FsR S ρ H fs vs → ObR S ρ H (.ins c fs) a
theorem ObR.there {S : Sy} {ρ : Own} {H : Hp} {o : Ob} {a : Addr} (r : ObR S ρ H o a) : ∃ u, H a = some u := by
  cases r <;> exact ⟨_, by assumption⟩
theorem ObR.mono {S : Sy} {ρ ρ' : Own} {H H' : Hp} (m : Mv S ρ H ρ' H') {o : Ob} {a : Addr} (e : H' a = H a) (r : ObR S ρ H o a) : ObR S ρ' H' o a := by
  cases r with
  | lst h q => exact .lst (e.trans h) (q.mono m)
  | fro h => exact .fro (e.trans h)
  | dcK h q => exact .dcK (e.trans h) (q.mono m)
  | dcT h q => exact .dcT (e.trans h) (q.mono m)
  | dcL h q => exact .dcL (e.trans h) (q.mono m)
  | dcM h q => exact .dcM (e.trans h) (q.mono m)
  | ins h q => exact .ins (e.trans h) (q.mono m)
/-- the heap is held -/
structure Rel (S : Sy) (ρ : Own) (h : Hea) (H : Hp) : Prop where
  len : h.length = ρ.nm.length
  inj : ∀ (i j : Nat) (a : Addr), ρ.nm[i]? = some a → ρ.nm[j]? = some a → i = j
  ob : ∀ (i : Nat) (o : Ob) (a : Addr), h[i]? = some o → ρ.nm[i]? = some a → ObR S ρ H o a
  hid : ∀ a, a ∈ ρ.hd → (∃ u, H a = some u) ∧ Off ρ a
theorem upd_some {H : Hp} {p a : Addr} {o u : HO} (e : H a = some u) : ∃ u, upd H p o a = some u := by
  unfold upd
  split
  · exact ⟨_, rfl⟩
  · exact ⟨_, e⟩
theorem Rel.at {S : Sy} {ρ : Own} {h : Hea} {H : Hp} (r : Rel S ρ h H) {i : Nat} {o : Ob} (e : h[i]? = some o) : ∃ a, ρ.nm[i]? = some a ∧ ObR S ρ H o a := by
  have hi := (List.getElem?_eq_some_iff.mp e).1
  rw [r.len] at hi
  exact ⟨_, List.getElem?_eq_getElem hi, r.ob i o _ e (List.getElem?_eq_getElem hi)⟩
theorem Kp.new {S : Sy} {H : Hp} {p : Addr} {o : HO} (n : H p = none) : Kp S H (upd H p o) := by
  refine ⟨fun a xs h => ?_, fun a fs h => by rw [upd_ne (ne_of_none h n)]; exact h, fun a ob u h => by rw [upd_ne (ne_of_none h n)]; exact h⟩
  rcases h with (h | ⟨u, h⟩) | h
  · exact .inl (.inl (by rw [upd_ne (ne_of_none h n)]; exact h))
  · exact .inl (.inr ⟨u, by rw [upd_ne (ne_of_none h n)]; exact h⟩)
  · exact .inr h
/-- what may be changed: no tuple, nothing locked, no error's dict -/
def Ch : HO → Prop
  | .tup _ => False
  | .frz _ _ => False
  | .xd _ => False
  | _ => True
theorem Kp.put {S : Sy} {H : Hp} {p : Addr} {o u : HO} (e : H p = some u) (h1 : Ch u) : Kp S H (upd H p o) := by
  refine ⟨fun a xs h => ?_, fun a fs h => by rw [upd_ne (ne_of h e (by rintro rfl; exact h1))]; exact h, fun a ob v h => by rw [upd_ne (ne_of h e (by rintro rfl; exact h1))]; exact h⟩
  rcases h with (h | ⟨w, h⟩) | h
  · exact .inl (.inl (by rw [upd_ne (ne_of h e (by rintro rfl; exact h1))]; exact h))
  · exact .inl (.inr ⟨w, by rw [upd_ne (ne_of h e (by rintro rfl; exact h1))]; exact h⟩)
  · exact .inr h
theorem add_some {ρ : Own} {p a : Addr} {i : Nat} (h : (ρ.add p).nm[i]? = some a) : ρ.nm[i]? = some a ∨ a = p := by
  have h : (ρ.nm ++ [p])[i]? = some a := h
  by_cases hi : i < ρ.nm.length
  · rw [List.getElem?_append_left hi] at h
    exact .inl h
  · rw [List.getElem?_append_right (Nat.le_of_not_lt hi)] at h
    have := List.mem_of_getElem? h
    simp at this
    exact .inr this
theorem Fz.add {ρ : Own} {p a : Addr} (f : Fz ρ a) (n : a ≠ p) : Fz (ρ.add p) a := ⟨fun i z => by
  rcases add_some z with z | z
  · exact f.1 i z
  · exact n z, f.2⟩
theorem Mv.side {S : Sy} {ρ : Own} {H : Hp} {p : Addr} {o : HO} (n : H p = none) : Mv S ρ H ρ (upd H p o) := ⟨.rfl, .new n, fun a u e f => ⟨⟨u, by rw [upd_ne (ne_of_none e n)]; exact e, .rfl⟩, f⟩⟩
theorem Mv.new {S : Sy} {ρ : Own} {H : Hp} {p : Addr} {o : HO} (n : H p = none) : Mv S ρ H (ρ.add p) (upd H p o) := ⟨.app, .new n, fun a u e f => ⟨⟨u, by rw [upd_ne (ne_of_none e n)]; exact e, .rfl⟩, f.add (ne_of_none e n)⟩⟩
theorem Mv.put {S : Sy} {ρ : Own} {H : Hp} {i : Nat} {a : Addr} {u o : HO} (ea : ρ.nm[i]? = some a) (e : H a = some u) (h1 : Ch u) : Mv S ρ H ρ (upd H a o) := ⟨.rfl, .put e h1, fun b w q f => ⟨⟨w, by
  have hb : b ≠ a := fun z => f.1 i (by rw [z]; exact ea)
  rw [upd_ne hb]; exact q, .rfl⟩, f⟩⟩
/-- a thing that is being made is changed -/
theorem Mv.hid {S : Sy} {ρ : Own} {H : Hp} {a : Addr} {u o : HO} (ea : a ∈ ρ.hd) (e : H a = some u) (h1 : Ch u) : Mv S ρ H ρ (upd H a o) := ⟨.rfl, .put e h1, fun b w q f => ⟨⟨w, by
  have hb : b ≠ a := fun z => f.2 (by rw [z]; exact ea)
  rw [upd_ne hb]; exact q, .rfl⟩, f⟩⟩
theorem Rel.free {S : Sy} {ρ : Own} {h : Hea} {H : Hp} (r : Rel S ρ h H) {p : Addr} (n : H p = none) {i : Nat} (e : ρ.nm[i]? = some p) : False := by
  have hi := (List.getElem?_eq_some_iff.mp e).1
  rw [← r.len] at hi
  obtain ⟨u, q⟩ := (r.ob i _ p (List.getElem?_eq_getElem hi) e).there
  rw [n] at q; cases q
/-- a new thing that is not in the heap of the evaluator -/
theorem Rel.side {S : Sy} {ρ : Own} {h : Hea} {H : Hp} (r : Rel S ρ h H) {p : Addr} {o : HO} (n : H p = none) : Rel S ρ h (upd H p o) :=
  ⟨r.len, r.inj, fun i ob a e1 e2 => (r.ob i ob a e1 e2).mono (.side n) (upd_ne fun z => r.free n (z ▸ e2)), fun a m => let ⟨⟨_, e⟩, z⟩ := r.hid a m; ⟨upd_some e, z⟩⟩
theorem Rel.fz {S : Sy} {ρ : Own} {h : Hea} {H : Hp} (r : Rel S ρ h H) {p : Addr} (n : H p = none) : Fz ρ p := ⟨fun _ z => r.free n z, fun m => by
  obtain ⟨⟨u, e⟩, _⟩ := r.hid p m
  rw [n] at e; cases e⟩
theorem add_at {ρ : Own} {p : Addr} : (ρ.add p).nm[ρ.nm.length]? = some p := by show (ρ.nm ++ [p])[ρ.nm.length]? = some p; simp
theorem Rel.grow {S : Sy} {ρ : Own} {h : Hea} {H' : Hp} (hl : h.length = ρ.nm.length) (inj : ∀ (i j : Nat) (a : Addr), ρ.nm[i]? = some a → ρ.nm[j]? = some a → i = j) {p : Addr} {ob : Ob} (n : Off ρ p)
    (os : ∀ (i : Nat) (o : Ob) (a : Addr), h[i]? = some o → ρ.nm[i]? = some a → ObR S (ρ.add p) H' o a) (q : ObR S (ρ.add p) H' ob p) (hi : ∀ a, a ∈ ρ.hd → (∃ u, H' a = some u) ∧ Off ρ a) (hp : p ∉ ρ.hd) : Rel S (ρ.add p) (h ++ [ob]) H' := by
  have one : ∀ (i : Nat) (a : Addr), (ρ.add p).nm[i]? = some a → (i < ρ.nm.length ∧ ρ.nm[i]? = some a) ∨ (i = ρ.nm.length ∧ a = p) := by
    intro i a e
    have e : (ρ.nm ++ [p])[i]? = some a := e
    by_cases h1 : i < ρ.nm.length
    · rw [List.getElem?_append_left h1] at e
      exact .inl ⟨h1, e⟩
    · rw [List.getElem?_append_right (Nat.le_of_not_lt h1)] at e
      have e3 := (List.getElem?_eq_some_iff.mp e).1
      have e4 := (List.mem_of_getElem? e)
      simp at e3 e4
      exact .inr ⟨by omega, e4⟩
  refine ⟨by simp [hl, Own.add], fun i j a e1 e2 => ?_, fun i o' a e1 e2 => ?_, fun a m => ⟨(hi a m).1, (Fz.add (ρ := ⟨ρ.nm, []⟩) (p := p) ⟨(hi a m).2, by simp⟩ fun z => hp (z ▸ m)).1⟩⟩
  · rcases one i a e1 with ⟨_, w1⟩ | ⟨z1, w1⟩
    · rcases one j a e2 with ⟨_, w2⟩ | ⟨z2, w2⟩
      · exact inj i j a w1 w2
      · exact (n i (w2 ▸ w1)).elim
    · rcases one j a e2 with ⟨_, w2⟩ | ⟨z2, w2⟩
      · exact (n j (w1 ▸ w2)).elim
      · omega
  · rcases one i a e2 with ⟨z, w2⟩ | ⟨z, w2⟩
    · rw [List.getElem?_append_left (by omega)] at e1
      exact os i o' a e1 w2
    · subst z w2
      rw [List.getElem?_append_right (by omega)] at e1
      have e4 := (List.mem_of_getElem? e1)
      simp at e4
      subst e4
      exact q
/-- a new object -/
theorem Rel.new {S : Sy} {ρ : Own} {h : Hea} {H : Hp} (r : Rel S ρ h H) {p : Addr} {o : HO} {ob : Ob} (n : H p = none) (q : ObR S (ρ.add p) (upd H p o) ob p) : Rel S (ρ.add p) (h ++ [ob]) (upd H p o) :=
  Rel.grow r.len r.inj (fun i z => r.free n z) (fun i o' a e1 e2 => (r.ob i o' a e1 e2).mono (.new n) (upd_ne fun z => r.free n (z ▸ e2))) q (fun a m => let ⟨⟨_, e⟩, z⟩ := r.hid a m; ⟨upd_some e, z⟩) (r.fz n).2
/-- an object changed -/
theorem Rel.put {S : Sy} {ρ : Own} {h : Hea} {H : Hp} (r : Rel S ρ h H) {i : Nat} {a : Addr} {u o : HO} {ob : Ob} (e : ρ.nm[i]? = some a) (hu : H a = some u) (h1 : Ch u)
    (q : ObR S ρ (upd H a o) ob a) : Rel S ρ (h.set i ob) (upd H a o) := by
  refine ⟨by simp [r.len], r.inj, fun j o' b e1 e2 => ?_, fun a m => let ⟨⟨_, e⟩, z⟩ := r.hid a m; ⟨upd_some e, z⟩⟩
  by_cases hj : i = j
  · subst hj
    have hi := (List.getElem?_eq_some_iff.mp e).1
    rw [← r.len] at hi
    rw [List.getElem?_set_self hi] at e1
    cases e1
    rw [e] at e2; cases e2
    exact q
  · rw [List.getElem?_set_ne hj] at e1
    have nb : b ≠ a := fun z => hj (r.inj i j a e (z ▸ e2))
    exact (r.ob j o' b e1 e2).mono (.put e hu h1) (upd_ne nb)
inductive ER (S : Sy) (ρ : Own) (H : Hp) : En → St → Prop where
  | nil : ER S ρ H [] []
  | cons {d : Option Val} {v : Option V} {ds : En} {vs : St} : (∀ x, d = some x → ∃ y, v = some y ∧ Rep S ρ H x y) → ER S ρ H ds vs → ER S ρ H (d :: ds) (v :: vs)
theorem ER.mono {S : Sy} {ρ ρ' : Own} {H H' : Hp} (m : Mv S ρ H ρ' H') : ∀ {ds : En} {vs : St}, ER S ρ H ds vs → ER S ρ' H' ds vs
  | _, _, .nil => .nil
  | _, _, .cons r t => .cons (fun x e => let ⟨y, e1, q⟩ := r x e; ⟨y, e1, q.mono m⟩) (t.mono m)
theorem ER.get {S : Sy} {ρ : Own} {H : Hp} : ∀ {ds : En} {vs : St} {i : Nat} {d : Val}, ER S ρ H ds vs → ds[i]? = some (some d) → ∃ v, vs[i]? = some (some v) ∧ Rep S ρ H d v
  | _, _, 0, _, .cons r _, e => by
    have e := Option.some.inj e
    obtain ⟨y, e1, q⟩ := r _ e
    subst e1
    exact ⟨_, rfl, q⟩
  | _, _, i + 1, _, .cons _ t, e => ER.get (i := i) t e
  | _, _, i, _, .nil, e => by simp at e
theorem ER.set {S : Sy} {ρ : Own} {H : Hp} {d : Val} {v : V} (r : Rep S ρ H d v) : ∀ {ds : En} {vs : St} (i : Nat), ER S ρ H ds vs → ER S ρ H (ds.set i (some d)) (vs.set i (some v))
  | _, _, _, .nil => .nil
  | _, _, 0, .cons _ t => .cons (fun x e => ⟨_, rfl, by cases e; exact r⟩) t
  | _, _, i + 1, .cons q t => .cons q (ER.set r i t)
theorem ER.gone {S : Sy} {ρ : Own} {H : Hp} {v : Option V} : ∀ {ds : En} {vs : St} (i : Nat), ER S ρ H ds vs → ER S ρ H (ds.set i none) (vs.set i v)
  | _, _, _, .nil => .nil
  | _, _, 0, .cons _ t => .cons (fun x e => nomatch e) t
  | _, _, i + 1, .cons q t => .cons q (ER.gone i t)
/-- forgetting on the evaluator's side alone -/
theorem ER.weak {S : Sy} {ρ : Own} {H : Hp} : ∀ {ds : En} {vs : St} (i : Nat), ER S ρ H ds vs → ER S ρ H (ds.set i none) vs
  | _, _, _, .nil => .nil
  | _, _, 0, .cons _ t => .cons (fun x e => nomatch e) t
  | _, _, i + 1, .cons q t => .cons q (ER.weak i t)
/-- from one place to a later one: what was named stays named, tuples stay, what the evaluator does not hold stays, what is newly held was not there -/
structure Go (S : Sy) (ρ : Own) (H : Hp) (ρ' : Own) (H' : Hp) : Prop where
  sub : Sub ρ ρ'
  kp : Kp S H H'
  fr : ∀ a o, H a = some o → Off ρ a → (∃ o', H' a = some o' ∧ Sl o o') ∧ (a ∈ ρ.hd → H' a = some o)
  nw : ∀ (i : Nat) (a : Addr), ρ'.nm[i]? = some a → (∃ j : Nat, ρ.nm[j]? = some a) ∨ H a = none
  hd : ρ'.hd = ρ.hd
theorem Go.rfl {S : Sy} {ρ : Own} {H : Hp} : Go S ρ H ρ H := ⟨.rfl, .rfl, fun _ _ h _ => ⟨⟨_, h, .rfl⟩, fun _ => h⟩, fun i _ h => .inl ⟨i, h⟩, Eq.refl _⟩
theorem Go.trans {S : Sy} {ρ ρ1 ρ2 : Own} {H H1 H2 : Hp} (a : Go S ρ H ρ1 H1) (b : Go S ρ1 H1 ρ2 H2) : Go S ρ H ρ2 H2 := by
  have off : ∀ x o, H x = some o → Off ρ x → Off ρ1 x := fun x o e n i q => by
    rcases a.nw i x q with ⟨j, z⟩ | z
    · exact n j z
    · rw [z] at e; cases e
  refine ⟨a.sub.trans b.sub, a.kp.trans b.kp, fun x o e n => ?_, fun i x q => ?_, b.hd.trans a.hd⟩
  · obtain ⟨⟨o1, e1, s1⟩, k1⟩ := a.fr x o e n
    obtain ⟨⟨o2, e2, s2⟩, k2⟩ := b.fr x o1 e1 (off x o e n)
    exact ⟨⟨o2, e2, s1.trans s2⟩, fun m => (b.fr x o (k1 m) (off x o e n)).2 (by rw [a.hd]; exact m)⟩
  · rcases b.nw i x q with ⟨j, z⟩ | z
    · exact a.nw j x z
    · cases e : H x with
      | none => exact .inr (Eq.refl _)
      | some o =>
        refine .inl (Classical.byContradiction fun n => ?_)
        obtain ⟨⟨o', this, _⟩, _⟩ := a.fr x o e fun j w => n ⟨j, w⟩
        rw [z] at this; cases this
/-- a new thing at p, not held -/
theorem Go.side {S : Sy} {ρ : Own} {H : Hp} {p : Addr} {o : HO} (n : H p = none) : Go S ρ H ρ (upd H p o) :=
  ⟨.rfl, .new n, fun a u e _ => have q : upd H p o a = some u := by rw [upd_ne (ne_of_none e n)]; exact e
    ⟨⟨u, q, .rfl⟩, fun _ => q⟩, fun i _ h => .inl ⟨i, h⟩, Eq.refl _⟩
/-- a new thing at p, held -/
theorem Go.new {S : Sy} {ρ : Own} {H : Hp} {p : Addr} {o : HO} (n : H p = none) : Go S ρ H (ρ.add p) (upd H p o) := by
  refine ⟨.app, .new n, fun a u e _ => have q : upd H p o a = some u := by rw [upd_ne (ne_of_none e n)]; exact e
    ⟨⟨u, q, .rfl⟩, fun _ => q⟩, fun i a h => ?_, Eq.refl _⟩
  rcases add_some h with h | h
  · exact .inl ⟨i, h⟩
  · subst h
    exact .inr n
/-- a thing that is held is changed -/
theorem Go.put {S : Sy} {ρ : Own} {H : Hp} {i : Nat} {a : Addr} {u o : HO} (ea : ρ.nm[i]? = some a) (e : H a = some u) (h1 : Ch u) : Go S ρ H ρ (upd H a o) :=
  ⟨.rfl, .put e h1, fun b w q n => by
    have hb : b ≠ a := fun z => n i (by rw [z]; exact ea)
    have q' : upd H a o b = some w := by rw [upd_ne hb]; exact q
    exact ⟨⟨w, q', .rfl⟩, fun _ => q'⟩, fun i _ h => .inl ⟨i, h⟩, Eq.refl _⟩
theorem Go.mv {S : Sy} {ρ ρ' : Own} {H H' : Hp} (g : Go S ρ H ρ' H') : Mv S ρ H ρ' H' := ⟨g.sub, g.kp, fun a o e f => ⟨(g.fr a o e f.1).1, (fun i z => by
  rcases g.nw i a z with ⟨j, q⟩ | q
  · exact f.1 j q
  · rw [q] at e; cases e), by rw [g.hd]; exact f.2⟩⟩
theorem Go.lst {S : Sy} {ρ ρ' : Own} {H H' : Hp} (g : Go S ρ H ρ' H') {a : Addr} {xs : List V} (h : H a = some (.lst xs)) (n : Off ρ a) : H' a = some (.lst xs) := by
  obtain ⟨⟨o, e, s⟩, _⟩ := g.fr a _ h n
  rw [s.lst] at e; exact e
section
variable (S : Sy)
def Aft (ρ : Own) (H : Hp) (r : Res Val) (Q : VK) (W : XK) : Prop := match r with
  | .ok d h' => ∀ ρ' v H', Go S ρ H ρ' H' → Rel S ρ' h' H' → Rep S ρ' H' d v → Q v H'
  | .exc c d h' => ∀ ρ' v H' dx, Go S ρ H ρ' H' → Rel S ρ' h' H' → Rep S ρ' H' d v → H' dx = some (.xd [(S.fld c, v)]) → W (.ref (S.ca c)) (some dx) H'
  | .stuck => False
def AftS (ρ : Own) (H : Hp) (r : SRes) (D : Ends) (W : WX) : Prop := match r with
  | .nx e h' => ∀ ρ' σ' H', Go S ρ H ρ' H' → Rel S ρ' h' H' → ER S ρ' H' e σ' → D.nx σ' H'
  | .rt d h' => ∀ ρ' v H', Go S ρ H ρ' H' → Rel S ρ' h' H' → Rep S ρ' H' d v → D.rt v H'
  | .bk e h' => ∀ ρ' σ' H', Go S ρ H ρ' H' → Rel S ρ' h' H' → ER S ρ' H' e σ' → D.bk σ' H'
  | .ct e h' => ∀ ρ' σ' H', Go S ρ H ρ' H' → Rel S ρ' h' H' → ER S ρ' H' e σ' → D.ct σ' H'
  | .exc c d e h' => ∀ ρ' v σ' H' dx, Go S ρ H ρ' H' → Rel S ρ' h' H' → Rep S ρ' H' d v → ER S ρ' H' e σ' → H' dx = some (.xd [(S.fld c, v)]) → W (.ref (S.ca c)) (some dx) σ' H'
  | .stuck => False
def tE (W : WX) (f : En → Hea → Res Val) : TE := fun σ H Q => ∃ ρ e h, Rel S ρ h H ∧ ER S ρ H e σ ∧ Aft S ρ H (f e h) Q (fun c d H' => W c d σ H')
def tS (W : WX) (f : En → Hea → SRes) : TS := fun D σ H => ∃ ρ e h, Rel S ρ h H ∧ ER S ρ H e σ ∧ AftS S ρ H (f e h) D W
end
section
variable {S : Sy}
theorem Aft.later {ρ ρ1 : Own} {H H1 : Hp} {r : Res Val} {Q : VK} {W : XK} (a : Aft S ρ H r Q W) (s : Go S ρ H ρ1 H1) : Aft S ρ1 H1 r Q W := by
  cases r with
  | ok d h' => exact fun ρ2 v H2 s2 => a ρ2 v H2 (s.trans s2)
  | exc c d h' => exact fun ρ2 v H2 dx s2 => a ρ2 v H2 dx (s.trans s2)
  | stuck => exact a
theorem Aft.bind {ρ : Own} {H : Hp} {r : Res Val} {k : Val → Hea → Res Val} {Q : VK} {W : XK} (a : Aft S ρ H (r.bind k) Q W) :
    Aft S ρ H r (fun v H1 => ∃ ρ1 d h1, Go S ρ H ρ1 H1 ∧ Rel S ρ1 h1 H1 ∧ Rep S ρ1 H1 d v ∧ Aft S ρ1 H1 (k d h1) Q W) W := by
  cases r with
  | ok d h => exact fun ρ1 v H1 s R r => ⟨ρ1, d, h, s, R, r, Aft.later (r := k d h) a s⟩
  | exc c d h => exact a
  | stuck => exact a
theorem Aft.mono {ρ : Own} {H : Hp} {r : Res Val} {Q Q' : VK} {W : XK} (a : Aft S ρ H r Q W) (h : ∀ v H', Q v H' → Q' v H') : Aft S ρ H r Q' W := by
  cases r with
  | ok d h' => exact fun ρ1 v H1 s R r => h _ _ (a ρ1 v H1 s R r)
  | exc c d h' => exact a
  | stuck => exact a
theorem AftS.later {ρ ρ1 : Own} {H H1 : Hp} {r : SRes} {D : Ends} {W : WX} (a : AftS S ρ H r D W) (s : Go S ρ H ρ1 H1) : AftS S ρ1 H1 r D W := by
  cases r with
  | nx e h' => exact fun ρ2 σ H2 s2 => a ρ2 σ H2 (s.trans s2)
  | rt d h' => exact fun ρ2 σ H2 s2 => a ρ2 σ H2 (s.trans s2)
  | bk e h' => exact fun ρ2 σ H2 s2 => a ρ2 σ H2 (s.trans s2)
  | ct e h' => exact fun ρ2 σ H2 s2 => a ρ2 σ H2 (s.trans s2)
  | exc c d e h' => exact fun ρ2 v σ H2 dx s2 => a ρ2 v σ H2 dx (s.trans s2)
  | stuck => exact a
theorem Rep.go {ρ ρ' : Own} {H H' : Hp} {d : Val} {v : V} (r : Rep S ρ H d v) (g : Go S ρ H ρ' H') : Rep S ρ' H' d v := r.mono g.mv
theorem Reps.go {ρ ρ' : Own} {H H' : Hp} {d : List Val} {v : List V} (r : Reps S ρ H d v) (g : Go S ρ H ρ' H') : Reps S ρ' H' d v := r.mono g.mv
theorem ER.go {ρ ρ' : Own} {H H' : Hp} {d : En} {v : St} (r : ER S ρ H d v) (g : Go S ρ H ρ' H') : ER S ρ' H' d v := r.mono g.mv
end
theorem _root_.L2.PE.imp {X : Cx} {e : Expr} {t t' : TE} (p : PE X e t) (h : ∀ σ H Q, t' σ H Q → t σ H Q) : PE X e t' := ⟨fun pins s σ H Q I q => p.run pins s σ H Q I (h σ H Q q)⟩
theorem _root_.L2.PT.imp {X : Cx} {e : Expr} {t t' : TT} (p : PT X e t) (h : ∀ σ H Q, t' σ H Q → t σ H Q) : PT X e t' := ⟨fun pins s σ H Q I q => p.run pins s σ H Q I (h σ H Q q)⟩
theorem _root_.L2.PA.imp {X : Cx} {e : List Expr} {t t' : TA} (p : PA X e t) (h : ∀ σ H Q, t' σ H Q → t σ H Q) : PA X e t' := ⟨fun pos pins s σ H Q I q => p.run pos pins s σ H Q I (h σ H Q q)⟩
theorem _root_.L2.PS.imp {X : Cx} {e : Stmt} {t t' : TS} (p : PS X e t) (h : ∀ D σ H, t' D σ H → t D σ H) : PS X e t' := ⟨fun pins s σ H D I q => p.run pins s σ H D I (h D σ H q)⟩
theorem _root_.L2.PSs.imp {X : Cx} {e : List Stmt} {t t' : TS} (p : PSs X e t) (h : ∀ D σ H, t' D σ H → t D σ H) : PSs X e t' := ⟨fun pins s σ H D I q => p.run pins s σ H D I (h D σ H q)⟩
end Lad
end
section
set_option maxRecDepth 100000
set_option maxHeartbeats 1000000
namespace Lad
open PySem L2
structure Tb where
  ca : Nat → Addr
  nm : Nat → Str
  fld : Nat → Str
  ex : Option (Addr × Nat × Addr)
abbrev sy (T : Tb) (X : Cx) : Sy := ⟨X.K, T.ca, T.nm, T.fld, X.prog, X.w, T.ex⟩
section
variable {S : Sy} {ρ : Own} {H : Hp}
theorem Rep.bl_ {b : Bool} {v : V} (r : Rep S ρ H (.bl b) v) : v = .bl b := by cases r; rfl
theorem Rep.int_ {b : Int} {v : V} (r : Rep S ρ H (.int b) v) : v = .int b := by cases r; rfl
theorem Rep.str_ {b : Str} {v : V} (r : Rep S ρ H (.str b) v) : v = .str b := by cases r; rfl
theorem Rep.tup_ {ds : List Val} {v : V} (r : Rep S ρ H (.tup ds) v) : ∃ a vs, v = .ref a ∧ StT S.K H a vs ∧ Reps S ρ H ds vs := by cases r; exact ⟨_, _, rfl, by assumption, by assumption⟩
theorem Rep.ref_ {i : Nat} {v : V} (r : Rep S ρ H (.ref i) v) : ∃ a, v = .ref a ∧ ρ.nm[i]? = some a := by cases r; exact ⟨_, rfl, by assumption⟩
/-- a list of the heap, to be read -/
def lstAt (h : Hea) (i : Nat) : Option (List Val) := match h[i]? with
  | some (.lst xs) => some xs
  | some (.fro ns) => some (ns.map Val.int)
  | _ => none
theorem Rel.lst {h : Hea} (R : Rel S ρ h H) {i : Nat} {xs : List Val} (e : lstAt h i = some xs) {a : Addr} (ea : ρ.nm[i]? = some a) : ∃ vs, SqL S.K H a vs ∧ Reps S ρ H xs vs := by
  unfold lstAt at e
  split at e
  · rename_i ys hy
    cases e
    have o := R.ob i _ a hy ea
    cases o with
    | lst h1 h2 => exact ⟨_, .inl (.inl h1), h2⟩
  · rename_i ys hy
    cases e
    have o := R.ob i _ a hy ea
    cases o with
    | fro h1 => exact ⟨_, .inl (.inr ⟨_, h1⟩), reps_ints _⟩
  · cases e
end
def opt (o : Option Val) (h : Hea) : Res Val := match o with
  | some d => .ok d h
  | none => .stuck
section
variable {S : Sy} {ρ : Own} {H : Hp} {h : Hea} {Q : VK} {W : XK}
theorem Aft.same {d : Val} {v : V} (a : Aft S ρ H (.ok d h) Q W) (R : Rel S ρ h H) (r : Rep S ρ H d v) : Q v H := a ρ v H .rfl R r
theorem Aft.tup {ds : List Val} {vs : List V} (a : Aft S ρ H (.ok (.tup ds) h) Q W) (R : Rel S ρ h H) (r : Reps S ρ H ds vs) : NewT H vs Q := fun p ob n z =>
  a ρ (.ref p) _ (.side n) (R.side n) (.tup (.inl ⟨ob, upd_same, z⟩) (r.mono (.side n)))
theorem Aft.new {ds : List Val} {vs : List V} (a : Aft S ρ H (.ok (.ref h.length) (h ++ [.lst ds])) Q W) (R : Rel S ρ h H) (r : Reps S ρ H ds vs) (p : Addr) (n : H p = none) : Q (.ref p) (upd H p (.lst vs)) :=
  a (ρ.add p) (.ref p) _ (.new n) (R.new n (.lst upd_same (r.mono (.new n)))) (.ref (by rw [R.len]; exact add_at))
end
section
variable {S : Sy} {ρ : Own} {H : Hp} {h : Hea} {Q : VK} {W : XK}
/-- a list that nothing changes any more -/
theorem Aft.flst {ds : List Val} {vs : List V} (a : Aft S ρ H (.ok (.lst ds) h) Q W) (R : Rel S ρ h H) (r : Reps S ρ H ds vs) (p : Addr) (n : H p = none) : Q (.ref p) (upd H p (.lst vs)) :=
  a ρ (.ref p) _ (.side n) (R.side n) (.lst (R.fz n) upd_same (r.mono (.side n)))
/-- a list, to be read -/
def lstOf (h : Hea) : Val → Option (List Val)
  | .lst xs => some xs
  | .ref i => lstAt h i
  | _ => none
theorem Rel.lstV (R : Rel S ρ h H) {d : Val} {v : V} {xs : List Val} (r : Rep S ρ H d v) (e : lstOf h d = some xs) : ∃ a vs, v = .ref a ∧ SqL S.K H a vs ∧ Reps S ρ H xs vs := by
  unfold lstOf at e
  split at e
  · cases e
    cases r with
    | lst f h1 h2 => exact ⟨_, _, rfl, .inl (.inl h1), h2⟩
  · obtain ⟨p, rfl, ep⟩ := r.ref_
    obtain ⟨vs, s, q⟩ := R.lst e ep
    exact ⟨p, vs, rfl, s, q⟩
  · cases e
/-- a list other than the script -/
def lstP (h : Hea) : Val → Option (List Val)
  | .lst xs => some xs
  | .ref i => match h[i]? with
    | some (.lst xs) => some xs
    | _ => none
  | _ => none
theorem Rel.lstQ (R : Rel S ρ h H) {d : Val} {v : V} {xs : List Val} (r : Rep S ρ H d v) (e : lstP h d = some xs) : ∃ a vs, v = .ref a ∧ H a = some (.lst vs) ∧ Reps S ρ H xs vs := by
  unfold lstP at e
  split at e
  · cases e
    cases r with
    | lst f h1 h2 => exact ⟨_, _, rfl, h1, h2⟩
  · obtain ⟨p, rfl, ep⟩ := r.ref_
    split at e
    · rename_i hx
      cases e
      have o := R.ob _ _ _ hx ep
      cases o with
      | lst h1 h2 => exact ⟨p, _, rfl, h1, h2⟩
    · cases e
  · cases e
end
theorem Reps.times {S : Sy} {ρ : Own} {H : Hp} {ds : List Val} {vs : List V} (r : Reps S ρ H ds vs) : ∀ n : Nat, Reps S ρ H (List.replicate n ds).flatten (List.replicate n vs).flatten
  | 0 => .nil
  | n + 1 => by
    rw [List.replicate_succ, List.replicate_succ, List.flatten_cons, List.flatten_cons]
    exact r.app (r.times n)
def rB (S : Sy) (g : Hea → Val → Val → Option Val) : R2 := fun x y H Q => ∃ ρ h d1 d2, Rel S ρ h H ∧ Rep S ρ H d1 x ∧ Rep S ρ H d2 y ∧ Aft S ρ H (opt (g h d1 d2) h) Q (fun _ _ _ => False)
theorem OpR.imp {X : Cx} {f : Value → Value → Sem Value} {r r' : R2} (p : OpR X f r) (h : ∀ x y H Q, r' x y H Q → r x y H Q) : OpR X f r' := fun pins s σ H x y v u Q I rx ry q => p pins s σ H x y v u Q I rx ry (h x y H Q q)
def mulOk (i j : Int) : Bool := decide ((-(2 ^ 64) < i ∧ i < 2 ^ 64) ∨ (-(2 ^ 64) < j ∧ j < 2 ^ 64)) || decide (i.natAbs.log2 + j.natAbs.log2 < 1000000)
def oAdd : Hea → Val → Val → Option Val
  | _, .int a, .int b => some (.int (a + b))
  | _, .str a, .str b => if a.length + b.length ≤ 16777216 then some (.str (a ++ b)) else none
  | _, .tup a, .tup b => if a.length + b.length ≤ 16777216 then some (.tup (a ++ b)) else none
  | h, a, b => match lstP h a, lstP h b with
    | some a, some b => if a.length + b.length ≤ 16777216 then some (.lst (a ++ b)) else none
    | _, _ => none
def oMul : Hea → Val → Val → Option Val
  | _, .int a, .int b => if mulOk a b = true then some (.int (a * b)) else none
  | h, a, .int k => match lstP h a with
    | some xs => if -(2 ^ 63) ≤ k ∧ k < 2 ^ 63 ∧ xs.length * k.toNat ≤ 16777216 then some (.lst (List.replicate k.toNat xs).flatten) else none
    | none => none
  | _, _, _ => none
def oDiv : Hea → Val → Val → Option Val
  | _, .int a, .int b => if b ≠ 0 ∧ b.natAbs.log2 < 9000 then some (.int (a.fdiv b)) else none
  | _, _, _ => none
def oMod : Hea → Val → Val → Option Val
  | _, .int a, .int b => if b ≠ 0 then some (.int (a.fmod b)) else none
  | _, _, _ => none
def oPow : Hea → Val → Val → Option Val
  | _, .int a, .int b => if 0 ≤ b ∧ b ≤ 1000000 ∧ a.natAbs < 2 ^ 64 then some (.int (a ^ b.toNat)) else none
  | _, _, _ => none
section
variable {T : Tb} {X : Cx}
theorem o_add : OpR X (binaryOp .Add) (rB (sy T X) oAdd) := by
  refine OpR.imp (OpR.or op_add (OpR.or op_add_str (OpR.or op_catS op_cat))) fun x y H Q h => ?_
  obtain ⟨ρ, h, d1, d2, R, r1, r2, a⟩ := h
  unfold oAdd at a
  split at a
  · obtain rfl := r1.int_; obtain rfl := r2.int_
    exact .inl ⟨_, _, rfl, rfl, a.same R (.int _)⟩
  · obtain rfl := r1.str_; obtain rfl := r2.str_
    split at a
    · rename_i hl
      exact .inr (.inl ⟨_, _, rfl, rfl, by rw [sizeLine_eq]; exact hl, a.same R (.str _)⟩)
    · exact a.elim
  · obtain ⟨p1, v1, rfl, s1, q1⟩ := r1.tup_
    obtain ⟨p2, v2, rfl, s2, q2⟩ := r2.tup_
    split at a
    · rename_i hl
      have l1 := q1.length
      have l2 := q2.length
      refine .inr (.inr (.inl ⟨p1, p2, v1, v2, rfl, rfl, s1.sq, s2.sq, by rw [sizeLine_eq]; omega, fun e => ?_, fun _ e => ?_, fun _ _ => ?_⟩))
      · subst e
        cases q1
        exact a.same R (.tup s2 q2)
      · subst e
        cases q2
        have a : Aft _ ρ H (.ok (.tup (_ ++ [])) h) Q _ := a
        rw [List.append_nil] at a
        exact a.same R (.tup s1 q1)
      · exact a.tup R (q1.app q2)
    · exact a.elim
  · split at a
    · rename_i xs ys e1 e2
      obtain ⟨p1, v1, rfl, s1, q1⟩ := R.lstQ r1 e1
      obtain ⟨p2, v2, rfl, s2, q2⟩ := R.lstQ r2 e2
      have l1 := q1.length
      have l2 := q2.length
      split at a
      · exact .inr (.inr (.inr ⟨p1, p2, v1, v2, rfl, rfl, s1, s2, by rw [sizeLine_eq]; omega, fun p n => Aft.flst a R (q1.app q2) p n⟩))
      · exact a.elim
    · exact a.elim
theorem o_mul : OpR X (binaryOp .Mult) (rB (sy T X) oMul) := by
  refine OpR.imp (OpR.or op_mul (OpR.or op_mulW op_rep)) fun x y H Q h => ?_
  obtain ⟨ρ, h, d1, d2, R, r1, r2, a⟩ := h
  unfold oMul at a
  split at a
  · obtain rfl := r1.int_; obtain rfl := r2.int_
    split at a
    · rename_i hm
      unfold mulOk at hm
      rcases Bool.or_eq_true_iff.mp hm with hm | hm
      · have hm2 := of_decide_eq_true hm
        exact .inl ⟨_, _, rfl, rfl, hm2, a.same R (.int _)⟩
      · exact .inr (.inl ⟨_, _, rfl, rfl, (of_decide_eq_true (p := _ < 1000000) hm : _ < 1000000), a.same R (.int _)⟩)
    · exact a.elim
  · obtain rfl := r2.int_
    split at a
    · rename_i xs e1
      split at a
      · rename_i hk
        obtain ⟨p1, v1, rfl, s1, q1⟩ := R.lstQ r1 e1
        have l1 := q1.length
        exact .inr (.inr ⟨p1, _, v1, rfl, rfl, s1, hk.1, hk.2.1, by rw [sizeLine_eq, ← l1]; exact hk.2.2, fun p n => Aft.flst a R (q1.times _) p n⟩)
      · exact a.elim
    · exact a.elim
  · exact a.elim
theorem op_fdivA : OpR X (binaryOp .FloorDiv) (rI (fun _ j => j ≠ 0 ∧ j.natAbs.log2 < 9000) fun i j => .int (i.fdiv j)) := opI fun _ _ _ _ _ _ _ hc q => PyProof.Rows.floordiv_int hc.1 q (.inl (PyProof.noPylong_of_log2 hc.2))
theorem o_div : OpR X (binaryOp .FloorDiv) (rB (sy T X) oDiv) := by
  refine OpR.imp op_fdivA fun x y H Q h => ?_
  obtain ⟨ρ, h, d1, d2, R, r1, r2, a⟩ := h
  unfold oDiv at a
  split at a
  · obtain rfl := r1.int_; obtain rfl := r2.int_
    split at a
    · rename_i hm
      exact ⟨_, _, rfl, rfl, hm, a.same R (.int _)⟩
    · exact a.elim
  · exact a.elim
theorem o_mod : OpR X (binaryOp .Mod) (rB (sy T X) oMod) := by
  refine OpR.imp op_modN fun x y H Q h => ?_
  obtain ⟨ρ, h, d1, d2, R, r1, r2, a⟩ := h
  unfold oMod at a
  split at a
  · obtain rfl := r1.int_; obtain rfl := r2.int_
    split at a
    · rename_i hm
      exact ⟨_, _, rfl, rfl, hm, a.same R (.int _)⟩
    · exact a.elim
  · exact a.elim
theorem o_pow : OpR X (binaryOp .Pow) (rB (sy T X) oPow) := by
  refine OpR.imp op_pow fun x y H Q h => ?_
  obtain ⟨ρ, h, d1, d2, R, r1, r2, a⟩ := h
  unfold oPow at a
  split at a
  · obtain rfl := r1.int_; obtain rfl := r2.int_
    split at a
    · rename_i hm
      exact ⟨_, _, rfl, rfl, hm, a.same R (.int _)⟩
    · exact a.elim
  · exact a.elim
end
def mapO {α β : Type} (f : α → Option β) : List α → Option (List β)
  | [] => some []
  | x :: xs => match f x, mapO f xs with
    | some y, some ys => some (y :: ys)
    | _, _ => none
def toD : Nat → Hea → Val → Option PyData
  | _, _, .non => some .none
  | _, _, .bl b => some (.bool b)
  | _, _, .int i => some (.int i)
  | _, _, .str x => some (.str x)
  | 0, _, _ => none
  | n + 1, h, .tup xs => match mapO (toD n h) xs with
    | some ys => some (.tuple ys)
    | none => none
  | n + 1, h, .lst xs => match mapO (toD n h) xs with
    | some ys => some (.list ys)
    | none => none
  | n + 1, h, .ref i => match lstAt h i with
    | some xs => match mapO (toD n h) xs with
      | some ys => some (.list ys)
      | none => none
    | none => none
  | _ + 1, _, _ => none
section
variable {S : Sy} {ρ : Own} {H : Hp} {h : Hea}
theorem mapO_dp (n : Nat) (ih : ∀ (d : Val) (v : V) (p : PyData), Rep S ρ H d v → toD n h d = some p → Dp S.K H v p) : ∀ (xs : List Val) (vs : List V) (ps : List PyData), Reps S ρ H xs vs → mapO (toD n h) xs = some ps → DpAll S.K H vs ps
  | [], _, _, .nil, e => by cases e; exact .nil
  | x :: xs, _, _, .cons r t, e => by
    unfold mapO at e
    split at e
    · rename_i y ys h1 h2
      cases e
      exact .cons (ih _ _ _ r h1) (mapO_dp n ih xs _ _ t h2)
    · cases e
theorem toD_dp (R : Rel S ρ h H) : ∀ (n : Nat) (d : Val) (v : V) (p : PyData), Rep S ρ H d v → toD n h d = some p → Dp S.K H v p := by
  intro n
  induction n with
  | zero =>
    intro d v p r e
    cases r <;> simp only [toD] at e <;> cases e <;> constructor
  | succ n ih =>
    intro d v p r e
    cases r with
    | non => simp only [toD] at e; cases e; exact .non
    | bl b => simp only [toD] at e; cases e; exact .bl b
    | int b => simp only [toD] at e; cases e; exact .int b
    | str b => simp only [toD] at e; cases e; exact .str b
    | tup s t =>
      simp only [toD] at e
      split at e
      · rename_i ys hy
        cases e
        exact .tup s.sq (mapO_dp n ih _ _ _ t hy)
      · cases e
    | lst f h1 h2 =>
      simp only [toD] at e
      split at e
      · rename_i ys hy
        cases e
        exact .lst (.inl (.inl h1)) (mapO_dp n ih _ _ _ h2 hy)
      · cases e
    | dicK => simp only [toD] at e; cases e
    | dicT => simp only [toD] at e; cases e
    | obj => simp only [toD] at e; cases e
    | ref ea =>
      simp only [toD] at e
      split at e
      · rename_i xs hx
        split at e
        · rename_i ys hy
          cases e
          obtain ⟨vs, s, t⟩ := R.lst hx ea
          exact .lst s (mapO_dp n ih _ _ _ t hy)
        · cases e
      · cases e
    | exn h1 h2 r => simp only [toD] at e; cases e
    | err _ h1 h2 r => simp only [toD] at e; cases e
end
def eqB (h : Hea) (a b : Val) : Option Bool := match toD 60 h a, toD 60 h b with
  | some p, some q => if SeqAt.shaped p = true ∧ SeqAt.shaped q = true then some (PyData.eqv p q) else none
  | _, _ => none
def oEq (h : Hea) (a b : Val) : Option Val := (eqB h a b).map .bl
def oNe (h : Hea) (a b : Val) : Option Val := (eqB h a b).map fun c => .bl (!c)
theorem eqB_some {h : Hea} {a b : Val} {c : Bool} (e : eqB h a b = some c) : ∃ p q, toD 60 h a = some p ∧ toD 60 h b = some q ∧ SeqAt.shaped p = true ∧ SeqAt.shaped q = true ∧ c = PyData.eqv p q := by
  unfold eqB at e
  split at e
  · split at e
    · rename_i p q h1 h2 hs
      cases e
      exact ⟨p, q, h1, h2, hs.1, hs.2, rfl⟩
    · cases e
  · cases e
section
variable {T : Tb} {X : Cx}
theorem o_ne (hu : X.A.units + 64 < cLine) : OpR X (compareOp .NotEq) (rB (sy T X) oNe) := by
  refine OpR.imp (op_neD hu) fun x y H Q h => ?_
  obtain ⟨ρ, h, d1, d2, R, r1, r2, a⟩ := h
  unfold oNe at a
  cases e : eqB h d1 d2 with
  | none => rw [e] at a; exact a.elim
  | some c =>
    rw [e] at a
    obtain ⟨p, q, e1, e2, s1, s2, rfl⟩ := eqB_some e
    exact ⟨p, q, toD_dp R _ _ _ _ r1 e1, toD_dp R _ _ _ _ r2 e2, s1, s2, Aft.same (d := .bl _) a R (.bl _)⟩
end
def oLt : Hea → Val → Val → Option Val
  | _, .int a, .int b => some (.bl (decide (a < b)))
  | _, .str a, .str b => some (.bl (decide (a.cps.toList < b.cps.toList)))
  | _, _, _ => none
def oGt : Hea → Val → Val → Option Val
  | _, .int a, .int b => some (.bl (decide (b < a)))
  | _, _, _ => none
def oGe : Hea → Val → Val → Option Val
  | _, .int a, .int b => some (.bl (decide (b ≤ a)))
  | _, _, _ => none
section
variable {T : Tb} {X : Cx}
theorem o_lt : OpR X (compareOp .Lt) (rB (sy T X) oLt) := by
  refine OpR.imp (OpR.or op_lt op_lt_str) fun x y H Q h => ?_
  obtain ⟨ρ, h, d1, d2, R, r1, r2, a⟩ := h
  unfold oLt at a
  split at a
  · obtain rfl := r1.int_; obtain rfl := r2.int_
    exact .inl ⟨_, _, rfl, rfl, a.same R (.bl _)⟩
  · obtain rfl := r1.str_; obtain rfl := r2.str_
    exact .inr ⟨_, _, rfl, rfl, a.same R (.bl _)⟩
  · exact a.elim
theorem o_gt : OpR X (compareOp .Gt) (rB (sy T X) oGt) := by
  refine OpR.imp op_gt fun x y H Q h => ?_
  obtain ⟨ρ, h, d1, d2, R, r1, r2, a⟩ := h
  unfold oGt at a
  split at a
  · obtain rfl := r1.int_; obtain rfl := r2.int_
    exact ⟨_, _, rfl, rfl, a.same R (.bl _)⟩
  · exact a.elim
theorem o_ge : OpR X (compareOp .GtE) (rB (sy T X) oGe) := by
  refine OpR.imp op_ge fun x y H Q h => ?_
  obtain ⟨ρ, h, d1, d2, R, r1, r2, a⟩ := h
  unfold oGe at a
  split at a
  · obtain rfl := r1.int_; obtain rfl := r2.int_
    exact ⟨_, _, rfl, rfl, a.same R (.bl _)⟩
  · exact a.elim
end
end Lad
end
section
set_option maxRecDepth 100000
set_option maxHeartbeats 1000000
namespace Lad
open PySem L2
theorem itT {c : Bool} {A B : Prop} (e : c = true) (h : A) : if c = true then A else B := by rw [if_pos e]; exact h
theorem itF {c : Bool} {A B : Prop} (e : c = false) (h : B) : if c = true then A else B := by rw [if_neg (by rw [e]; decide)]; exact h
section
variable (S : Sy)
def AftL (ρ : Own) (H : Hp) (r : Res (List Val)) (Q : VK) (W : XK) : Prop := match r with
  | .ok xs h' => ∀ ρ' p vs H', Go S ρ H ρ' H' → Rel S ρ' h' H' → H' p = some (.lst vs) → Fz ρ' p → H p = none → Reps S ρ' H' xs vs → Rel S (ρ'.add p) (h' ++ [.lst xs]) H' → Q (.ref p) H'
  | .exc c d h' => ∀ ρ' v H' dx, Go S ρ H ρ' H' → Rel S ρ' h' H' → Rep S ρ' H' d v → H' dx = some (.xd [(S.fld c, v)]) → W (.ref (S.ca c)) (some dx) H'
  | .stuck => False
def AftA (ρ : Own) (H : Hp) (r : Res (List Val)) (Q : List V → Hp → Prop) (W : XK) : Prop := match r with
  | .ok xs h' => ∀ ρ' vs H', Go S ρ H ρ' H' → Rel S ρ' h' H' → Reps S ρ' H' xs vs → Q vs H'
  | .exc c d h' => ∀ ρ' v H' dx, Go S ρ H ρ' H' → Rel S ρ' h' H' → Rep S ρ' H' d v → H' dx = some (.xd [(S.fld c, v)]) → W (.ref (S.ca c)) (some dx) H'
  | .stuck => False
def tL (W : WX) (f : En → Hea → Res (List Val)) : TE := fun σ H Q => ∃ ρ e h, Rel S ρ h H ∧ ER S ρ H e σ ∧ AftL S ρ H (f e h) Q (fun c d H' => W c d σ H')
def tA (W : WX) (f : En → Hea → Res (List Val)) : TA := fun σ H Q => ∃ ρ e h, Rel S ρ h H ∧ ER S ρ H e σ ∧ AftA S ρ H (f e h) Q (fun c d H' => W c d σ H')
end
abbrev SE (T : Tb) (X : Cx) (W : WX) (e : Expr) (f : En → Hea → Res Val) : Prop := PE X e (tE (sy T X) W f)
abbrev SL (T : Tb) (X : Cx) (W : WX) (e : Expr) (f : En → Hea → Res (List Val)) : Prop := PE X e (tL (sy T X) W f)
abbrev SA (T : Tb) (X : Cx) (W : WX) (es : List Expr) (f : En → Hea → Res (List Val)) : Prop := PA X es (tA (sy T X) W f)
abbrev ST (T : Tb) (X : Cx) (W : WX) (e : Expr) (f : En → Hea → Res Val) : Prop := PT X e (tB (tE (sy T X) W f))
section
variable {S : Sy} {W : WX} {σ : St} {H : Hp} {Q : VK}
/-- where an expression has been -/
structure Been (S : Sy) (σ : St) (H : Hp) (v : V) (ρ : Own) (e : En) (d : Val) (h : Hea) : Prop where
  rel : Rel S ρ h H
  env : ER S ρ H e σ
  rep : Rep S ρ H d v
theorem tE.bind {f : En → Hea → Res Val} {g : En → Val → Hea → Res Val} (a : tE S W (fun e h => (f e h).bind (g e)) σ H Q) :
    tE S W f σ H (fun v H1 => ∃ ρ e d h, Been S σ H1 v ρ e d h ∧ Aft S ρ H1 (g e d h) Q (fun c d H' => W c d σ H')) := by
  obtain ⟨ρ, e, h, R, E, a⟩ := a
  exact ⟨ρ, e, h, R, E, a.bind.mono fun v H1 ⟨ρ1, d, h1, s, R1, r, a⟩ => ⟨ρ1, e, d, h1, ⟨R1, E.go s, r⟩, a⟩⟩
/-- a second one behind it -/
theorem Been.then_ {v : V} {ρ : Own} {e : En} {d : Val} {h : Hea} {f : En → Hea → Res Val} {k : Val → Hea → Res Val} (b : Been S σ H v ρ e d h) (a : Aft S ρ H ((f e h).bind k) Q (fun c d H' => W c d σ H')) :
    tE S W f σ H (fun v2 H2 => ∃ ρ2 d2 h2, Been S σ H2 v2 ρ2 e d2 h2 ∧ Rep S ρ2 H2 d v ∧ Aft S ρ2 H2 (k d2 h2) Q (fun c d H' => W c d σ H')) :=
  ⟨ρ, e, h, b.rel, b.env, a.bind.mono fun v2 H2 ⟨ρ2, d2, h2, s, R2, r2, a2⟩ => ⟨ρ2, d2, h2, ⟨R2, b.env.go s, r2⟩, b.rep.go s, a2⟩⟩
theorem Aft.noW {ρ : Own} {h : Hea} {o : Option Val} {W W' : XK} (a : Aft S ρ H (opt o h) Q W) : Aft S ρ H (opt o h) Q W' := by
  cases o with
  | some d => exact a
  | none => exact a
end
def eVar (i : Nat) : En → Hea → Res Val := fun e h => match e[i]? with
  | some (some d) => .ok d h
  | _ => .stuck
def eC (d : Val) : En → Hea → Res Val := fun _ h => .ok d h
section
variable {T : Tb} {X : Cx} {W : WX}
theorem se_var {i : Nat} {x : Str} {pos : Pos} (p : PE X (.Name x pos) (tVar i)) : SE T X W (.Name x pos) (eVar i) := p.imp fun σ H Q h => by
  obtain ⟨ρ, e, h, R, E, a⟩ := h
  unfold eVar at a
  split at a
  · rename_i d hd
    obtain ⟨v, ev, r⟩ := E.get hd
    exact ⟨v, ev, a.same R r⟩
  · exact a.elim
theorem se_cst {e : Expr} {d : Val} {v : V} (p : PE X e (tC v)) (hr : ∀ ρ H, Rep (sy T X) ρ H d v) : SE T X W e (eC d) := p.imp fun σ H Q h => by
  obtain ⟨ρ, e, h, R, E, a⟩ := h
  exact a.same R (hr ρ H)
theorem se_int {i j pos} : SE T X W (.Constant (.int i) j pos) (eC (.int i)) := se_cst pe_int fun _ _ => .int i
theorem se_bl {i j pos} : SE T X W (.Constant (.bool i) j pos) (eC (.bl i)) := se_cst pe_bl fun _ _ => .bl i
theorem se_non {j pos} : SE T X W (.Constant .none j pos) (eC .non) := se_cst pe_non fun _ _ => .non
theorem se_str {i j pos} : SE T X W (.Constant (.str i) j pos) (eC (.str i)) := se_cst pe_str fun _ _ => .str i
end
def eBin (g : Hea → Val → Val → Option Val) (f1 f2 : En → Hea → Res Val) : En → Hea → Res Val := fun e h => (f1 e h).bind fun x h1 => (f2 e h1).bind fun y h2 => opt (g h2 x y) h2
def eUn (g : Hea → Val → Option Val) (f : En → Hea → Res Val) : En → Hea → Res Val := fun e h => (f e h).bind fun x h1 => opt (g h1 x) h1
section
variable {T : Tb} {X : Cx} {W : WX} {a b c : Expr} {f1 f2 f3 : En → Hea → Res Val} {pos : Pos}
theorem bin_imp {g : Hea → Val → Val → Option Val} {σ : St} {H : Hp} {Q : VK} (q : tE (sy T X) W (eBin g f1 f2) σ H Q) : tOp (rB (sy T X) g) (tE (sy T X) W f1) (tE (sy T X) W f2) σ H Q := by
  obtain ⟨ρ, e, h, R, E, a⟩ := tE.bind (f := f1) (g := fun e x h1 => (f2 e h1).bind fun y h2 => opt (g h2 x y) h2) q
  refine ⟨ρ, e, h, R, E, a.mono fun v H1 ⟨ρ1, e1, d1, h1, b1, a1⟩ => ?_⟩
  obtain ⟨ρ', e', h', R', E', a'⟩ := b1.then_ (f := f2) (W := W) a1
  exact ⟨ρ', e', h', R', E', a'.mono fun v2 H2 ⟨ρ2, d2, h2, b2, r, a2⟩ => ⟨ρ2, h2, d1, d2, b2.rel, r, b2.rep, a2.noW⟩⟩
theorem se_bin {op : Operator} {g : Hea → Val → Val → Option Val} (ho : OpR X (binaryOp op) (rB (sy T X) g)) (ha : SE T X W a f1) (hb : SE T X W b f2) : SE T X W (.BinOp a op b pos) (eBin g f1 f2) :=
  (pe_op ho ha hb).imp fun σ H Q q => bin_imp q
theorem se_cmp {op : CmpOp} {g : Hea → Val → Val → Option Val} (ho : OpR X (compareOp op) (rB (sy T X) g)) (ha : SE T X W a f1) (hb : SE T X W b f2) (hm : behindInMarks op b = false) : SE T X W (.Compare a [op] [b] pos) (eBin g f1 f2) :=
  (pe_cmpR ho ha hb hm).imp fun σ H Q q => bin_imp q
theorem st_cmp {op : CmpOp} {g : Hea → Val → Val → Option Val} (ho : OpR X (compareOp op) (rB (sy T X) g)) (ha : SE T X W a f1) (hb : SE T X W b f2) (hm : behindInMarks op b = false) : ST T X W (.Compare a [op] [b] pos) (eBin g f1 f2) :=
  (pt_cmpR ho ha hb hm).imp fun σ H Q q => bin_imp q
/-- a op b op' c -/
def eChain (g g' : Hea → Val → Val → Option Val) (f1 f2 f3 : En → Hea → Res Val) : En → Hea → Res Val := fun e h => (f1 e h).bind fun x h1 => (f2 e h1).bind fun y h2 => match g h2 x y with
  | some (.bl true) => (f3 e h2).bind fun z h3 => opt (g' h3 y z) h3
  | some (.bl false) => .ok (.bl false) h2
  | _ => .stuck
end
def eAnd (f1 f2 : En → Hea → Res Val) : En → Hea → Res Val := fun e h => (f1 e h).bind fun x h1 => match x with
  | .bl true => f2 e h1
  | .bl false => .ok (.bl false) h1
  | _ => .stuck
def eOr (f1 f2 : En → Hea → Res Val) : En → Hea → Res Val := fun e h => (f1 e h).bind fun x h1 => match x with
  | .bl true => .ok (.bl true) h1
  | .bl false => f2 e h1
  | _ => .stuck
def oNot : Hea → Val → Option Val
  | _, .bl b => some (.bl (!b))
  | _, _ => none
def eIf (f1 f2 f3 : En → Hea → Res Val) : En → Hea → Res Val := fun e h => (f1 e h).bind fun x h1 => match x with
  | .bl true => f2 e h1
  | .bl false => f3 e h1
  | _ => .stuck
section
variable {T : Tb} {X : Cx} {W : WX} {a b c : Expr} {rest : List Expr} {f1 f2 f3 : En → Hea → Res Val} {pos : Pos}
theorem st_val (h : SE T X W a f1) (he : ∀ whole, isTrue a X.env whole = (do let v ← whole; standAt a.pos; holding [v] (truthy v)) := by intro _; rfl) : ST T X W a f1 := pt_val h he
theorem sw_oneO (h : ST T X W a f1) : PW X (.BoolOp .Or [a] pos) (tB (tE (sy T X) W f1)) := pw_or1 h
theorem _root_.L2.PW.imp {e : Expr} {t t' : TT} (p : PW X e t) (h : ∀ σ H Q, t' σ H Q → t σ H Q) : PW X e t' := ⟨fun whole pins s σ H Q I q => p.run whole pins s σ H Q I (h σ H Q q)⟩
theorem sw_or (ha : ST T X W a f1) (hb : PW X (.BoolOp .Or (b :: rest) pos) (tB (tE (sy T X) W f2))) : PW X (.BoolOp .Or (a :: b :: rest) pos) (tB (tE (sy T X) W (eOr f1 f2))) := (pw_or ha hb).imp fun σ H Q q => by
  obtain ⟨ρ, e, h, R, E, a⟩ := tE.bind (f := f1) (g := fun e x h1 => match x with | .bl true => .ok (.bl true) h1 | .bl false => f2 e h1 | _ => .stuck) q
  refine ⟨ρ, e, h, R, E, a.mono fun v H1 ⟨ρ1, e1, d1, h1, b1, a1⟩ => ?_⟩
  obtain ⟨R1, E1, r1⟩ := b1
  split at a1
  · obtain rfl := r1.bl_
    refine ⟨true, rfl, ?_⟩
    refine itT rfl ?_
    obtain ⟨c, ec, q⟩ := a1.same R1 (.bl _)
    cases ec
    exact q
  · obtain rfl := r1.bl_
    refine ⟨false, rfl, ?_⟩
    refine itF rfl ?_
    exact ⟨ρ1, e1, h1, R1, E1, a1⟩
  · exact a1.elim
theorem st_bool {op} (h : PW X (.BoolOp op (a :: rest) pos) (tB (tE (sy T X) W f1))) : ST T X W (.BoolOp op (a :: rest) pos) f1 := h.pt
theorem st_not (ha : ST T X W a f1) : ST T X W (.UnaryOp .Not a pos) (eUn oNot f1) := (pt_not ha).imp fun σ H Q q => by
  obtain ⟨ρ, e, h, R, E, a⟩ := tE.bind (f := f1) (g := fun e x h1 => opt (oNot h1 x) h1) q
  refine ⟨ρ, e, h, R, E, a.mono fun v H1 ⟨ρ1, e1, d1, h1, b1, a1⟩ => ?_⟩
  obtain ⟨R1, E1, r1⟩ := b1
  unfold oNot at a1
  split at a1
  · obtain rfl := r1.bl_
    obtain ⟨c, ec, q⟩ := a1.same R1 (.bl _)
    cases ec
    exact ⟨_, rfl, q⟩
  · exact a1.elim
theorem se_if (hc : ST T X W c f1) (ha : SE T X W a f2) (hb : SE T X W b f3) : SE T X W (.IfExp c a b pos) (eIf f1 f2 f3) := (pe_ifExp hc ha hb).imp fun σ H Q q => by
  obtain ⟨ρ, e, h, R, E, a⟩ := tE.bind (f := f1) (g := fun e x h1 => match x with | .bl true => f2 e h1 | .bl false => f3 e h1 | _ => .stuck) q
  refine ⟨ρ, e, h, R, E, a.mono fun v H1 ⟨ρ1, e1, d1, h1, b1, a1⟩ => ?_⟩
  obtain ⟨R1, E1, r1⟩ := b1
  split at a1
  · obtain rfl := r1.bl_
    refine ⟨true, rfl, ?_⟩
    refine itT rfl ?_
    exact ⟨ρ1, e1, h1, R1, E1, a1⟩
  · obtain rfl := r1.bl_
    refine ⟨false, rfl, ?_⟩
    refine itF rfl ?_
    exact ⟨ρ1, e1, h1, R1, E1, a1⟩
  · exact a1.elim
end
def aNil : En → Hea → Res (List Val) := fun _ h => .ok [] h
def aCons (f : En → Hea → Res Val) (g : En → Hea → Res (List Val)) : En → Hea → Res (List Val) := fun e h => (f e h).bind fun x h1 => (g e h1).bind fun xs h2 => .ok (x :: xs) h2
/-- *e in a display or a call -/
def itemsOf (h : Hea) : Val → Option (List Val)
  | .tup xs => some xs
  | .lst xs => some xs
  | .ref i => lstAt h i
  | _ => none
section
variable {S : Sy} {W : WX} {σ : St} {H : Hp} {Q : VK}
theorem AftA.bind {ρ : Own} {r : Res (List Val)} {k : List Val → Hea → Res Val} {Q : VK} {W : XK} (a : Aft S ρ H (r.bind k) Q W) :
    AftA S ρ H r (fun v H1 => ∃ ρ1 d h1, Go S ρ H ρ1 H1 ∧ Rel S ρ1 h1 H1 ∧ Reps S ρ1 H1 d v ∧ Aft S ρ1 H1 (k d h1) Q W) W := by
  cases r with
  | ok d h => exact fun ρ1 v H1 s R r => ⟨ρ1, d, h, s, R, r, Aft.later (r := k d h) a s⟩
  | exc c d h => exact a
  | stuck => exact a
theorem AftA.mono {ρ : Own} {r : Res (List Val)} {Q Q' : List V → Hp → Prop} {W : XK} (a : AftA S ρ H r Q W) (h : ∀ v H', Q v H' → Q' v H') : AftA S ρ H r Q' W := by
  cases r with
  | ok d h' => exact fun ρ1 v H1 s R r => h _ _ (a ρ1 v H1 s R r)
  | exc c d h' => exact a
  | stuck => exact a
theorem AftA.later {ρ ρ1 : Own} {H1 : Hp} {r : Res (List Val)} {Q : List V → Hp → Prop} {W : XK} (a : AftA S ρ H r Q W) (s : Go S ρ H ρ1 H1) : AftA S ρ1 H1 r Q W := by
  cases r with
  | ok d h' => exact fun ρ2 v H2 s2 => a ρ2 v H2 (s.trans s2)
  | exc c d h' => exact fun ρ2 v H2 dx s2 => a ρ2 v H2 dx (s.trans s2)
  | stuck => exact a
theorem AftA.bind1 {ρ : Own} {r : Res Val} {k : Val → Hea → Res (List Val)} {Q : List V → Hp → Prop} {W : XK} (a : AftA S ρ H (r.bind k) Q W) :
    Aft S ρ H r (fun v H1 => ∃ ρ1 d h1, Go S ρ H ρ1 H1 ∧ Rel S ρ1 h1 H1 ∧ Rep S ρ1 H1 d v ∧ AftA S ρ1 H1 (k d h1) Q W) W := by
  cases r with
  | ok d h => exact fun ρ1 v H1 s R r => ⟨ρ1, d, h, s, R, r, AftA.later (r := k d h) a s⟩
  | exc c d h => exact a
  | stuck => exact a
theorem AftA.bind2 {ρ : Own} {r : Res (List Val)} {k : List Val → Hea → Res (List Val)} {Q : List V → Hp → Prop} {W : XK} (a : AftA S ρ H (r.bind k) Q W) :
    AftA S ρ H r (fun v H1 => ∃ ρ1 d h1, Go S ρ H ρ1 H1 ∧ Rel S ρ1 h1 H1 ∧ Reps S ρ1 H1 d v ∧ AftA S ρ1 H1 (k d h1) Q W) W := by
  cases r with
  | ok d h => exact fun ρ1 v H1 s R r => ⟨ρ1, d, h, s, R, r, AftA.later (r := k d h) a s⟩
  | exc c d h => exact a
  | stuck => exact a
end
section
variable {T : Tb} {X : Cx} {W : WX} {a : Expr} {es : List Expr} {f : En → Hea → Res Val} {g : En → Hea → Res (List Val)} {pos : Pos}
theorem sa_nil : SA T X W [] aNil := pa_nil.imp fun σ H Q q => by
  obtain ⟨ρ, e, h, R, E, a⟩ := q
  exact a ρ [] H .rfl R .nil
theorem sa_cons (ha : SE T X W a f) (hr : SA T X W es g) (hs : starEach (a :: es) X.env = (false, eval a X.env) :: starEach es X.env := by rfl) : SA T X W (a :: es) (aCons f g) := (pa_cons ha hr hs).imp fun σ H Q q => by
  obtain ⟨ρ, e, h, R, E, a⟩ := q
  refine ⟨ρ, e, h, R, E, (AftA.bind1 a).mono fun v H1 ⟨ρ1, d, h1, s, R1, r, a1⟩ => ⟨ρ1, e, h1, R1, E.go s, (AftA.bind2 a1).mono fun vs H2 ⟨ρ2, ds, h2, s2, R2, r2, a2⟩ => ?_⟩⟩
  exact a2 ρ2 (v :: vs) H2 .rfl R2 (.cons (r.go s2) r2)
theorem items_sq {S : Sy} {ρ : Own} {H : Hp} {h : Hea} {d : Val} {v : V} {ys : List Val} (R : Rel S ρ h H) (r : Rep S ρ H d v) (e : itemsOf h d = some ys) : ∃ p xs, v = .ref p ∧ (StT S.K H p xs ∨ SqL S.K H p xs) ∧ Reps S ρ H ys xs := by
  unfold itemsOf at e
  split at e
  · cases e
    obtain ⟨p, vs, rfl, s, q⟩ := r.tup_
    exact ⟨p, vs, rfl, .inl s, q⟩
  · cases e
    cases r with
    | lst f h1 h2 => exact ⟨_, _, rfl, .inr (.inl (.inl h1)), h2⟩
  · obtain ⟨p, rfl, ea⟩ := r.ref_
    obtain ⟨vs, s, q⟩ := R.lst e ea
    exact ⟨p, vs, rfl, .inr s, q⟩
  · cases e
end
def eTup (g : En → Hea → Res (List Val)) : En → Hea → Res Val := fun e h => (g e h).bind fun xs h1 => if xs.length ≤ 16777216 then .ok (.tup xs) h1 else .stuck
def lDisp (g : En → Hea → Res (List Val)) : En → Hea → Res (List Val) := fun e h => (g e h).bind fun xs h1 => if xs.length ≤ 16777216 then .ok xs h1 else .stuck
/-- a made list is kept -/
def eLst (g : En → Hea → Res (List Val)) : En → Hea → Res Val := fun e h => (g e h).bind fun xs h1 => .ok (.lst xs) h1
/-- .. to be changed -/
def eNew (g : En → Hea → Res (List Val)) : En → Hea → Res Val := fun e h => (g e h).bind fun xs h1 => .ok (.ref h1.length) (h1 ++ [.lst xs])
section
variable {S : Sy} {H : Hp}
theorem AftL.mono {ρ : Own} {r : Res (List Val)} {Q Q' : VK} {W : XK} (a : AftL S ρ H r Q W) (h : ∀ v H', Q v H' → Q' v H') : AftL S ρ H r Q' W := by
  cases r with
  | ok d h' => exact fun ρ1 p v H1 s R e n z r k => h _ _ (a ρ1 p v H1 s R e n z r k)
  | exc c d h' => exact a
  | stuck => exact a
theorem Go.none {ρ ρ1 ρ2 : Own} {H1 H2 : Hp} (s : Go S ρ H ρ1 H1) {p : Addr} (n : Off ρ2 p) (s2 : Go S ρ1 H1 ρ2 H2) (z : H1 p = Option.none) : H p = Option.none := by
  cases e : H p with
  | none => rfl
  | some o =>
    obtain ⟨⟨o', this, _⟩, _⟩ := s.fr p o e fun i w => n i (s2.sub _ _ (s.sub _ _ w))
    rw [z] at this; cases this
theorem Go.adopt {ρ ρ1 : Own} {H1 : Hp} (s : Go S ρ H ρ1 H1) {p : Addr} (z : H p = Option.none) : Go S ρ H (ρ1.add p) H1 := by
  refine ⟨s.sub.trans .app, s.kp, s.fr, fun i a h => ?_, s.hd⟩
  rcases add_some h with h | h
  · exact s.nw i a h
  · subst h
    exact .inr z
theorem AftL.later {ρ ρ1 : Own} {H1 : Hp} {r : Res (List Val)} {Q : VK} {W : XK} (a : AftL S ρ H r Q W) (s : Go S ρ H ρ1 H1) : AftL S ρ1 H1 r Q W := by
  cases r with
  | ok d h' => exact fun ρ2 p v H2 s2 R e n z r k => a ρ2 p v H2 (s.trans s2) R e n (s.none n.1 s2 z) r k
  | exc c d h' => exact fun ρ2 v H2 dx s2 => a ρ2 v H2 dx (s.trans s2)
  | stuck => exact a
/-- behind a made list: another expression goes on with it -/
theorem AftL.bind {ρ : Own} {r : Res (List Val)} {k : List Val → Hea → Res Val} {Q : VK} {W : XK} (a : Aft S ρ H (r.bind k) Q W) :
    AftL S ρ H r (fun v H1 => ∃ ρ1 ds h1 p vs, Go S ρ H ρ1 H1 ∧ Rel S ρ1 h1 H1 ∧ v = .ref p ∧ H1 p = some (.lst vs) ∧ Fz ρ1 p ∧ H p = none ∧ Reps S ρ1 H1 ds vs ∧ Rel S (ρ1.add p) (h1 ++ [.lst ds]) H1 ∧ Aft S ρ H (k ds h1) Q W) W := by
  cases r with
  | ok d h => exact fun ρ1 p v H1 s R e n z r k => ⟨ρ1, d, h, p, v, s, R, rfl, e, n, z, r, k, a⟩
  | exc c d h => exact a
  | stuck => exact a
theorem AftA.bindL {ρ : Own} {r : Res (List Val)} {k : List Val → Hea → Res (List Val)} {Q : VK} {W : XK} (a : AftL S ρ H (r.bind k) Q W) :
    AftA S ρ H r (fun v H1 => ∃ ρ1 d h1, Go S ρ H ρ1 H1 ∧ Rel S ρ1 h1 H1 ∧ Reps S ρ1 H1 d v ∧ AftL S ρ1 H1 (k d h1) Q W) W := by
  cases r with
  | ok d h => exact fun ρ1 v H1 s R r => ⟨ρ1, d, h, s, R, r, AftL.later (r := k d h) a s⟩
  | exc c d h => exact a
  | stuck => exact a
theorem AftL.bind1 {ρ : Own} {r : Res Val} {k : Val → Hea → Res (List Val)} {Q : VK} {W : XK} (a : AftL S ρ H (r.bind k) Q W) :
    Aft S ρ H r (fun v H1 => ∃ ρ1 d h1, Go S ρ H ρ1 H1 ∧ Rel S ρ1 h1 H1 ∧ Rep S ρ1 H1 d v ∧ AftL S ρ1 H1 (k d h1) Q W) W := by
  cases r with
  | ok d h => exact fun ρ1 v H1 s R r => ⟨ρ1, d, h, s, R, r, AftL.later (r := k d h) a s⟩
  | exc c d h => exact a
  | stuck => exact a
/-- a new list that is made now -/
theorem AftL.made {ρ : Own} {h : Hea} {xs : List Val} {vs : List V} {Q : VK} {W : XK} (a : AftL S ρ H (.ok xs h) Q W) (R : Rel S ρ h H) (r : Reps S ρ H xs vs) (p : Addr) (n : H p = none) : Q (.ref p) (upd H p (.lst vs)) :=
  a ρ p vs _ (.side n) (R.side n) upd_same (R.fz n) n (r.mono (.side n)) (R.new n (.lst upd_same (r.mono (.new n))))
end
section
variable {T : Tb} {X : Cx} {W : WX} {a : Expr} {es : List Expr} {f : En → Hea → Res Val} {g : En → Hea → Res (List Val)} {pos : Pos}
theorem se_tup {x1} (h : SA T X W es g) : SE T X W (.Tuple es x1 pos) (eTup g) := (pe_tupS h).imp fun σ H Q q => by
  obtain ⟨ρ, e, h, R, E, a⟩ := q
  refine ⟨ρ, e, h, R, E, (AftA.bind a).mono fun vs H1 ⟨ρ1, ds, h1, s, R1, r, a1⟩ => ?_⟩
  have l := r.length
  split at a1
  · exact ⟨by rw [sizeLine_eq]; omega, a1.tup R1 r⟩
  · exact a1.elim
theorem sl_lst (h : SA T X W es g) : SL T X W (.List es pos) (lDisp g) := (pe_lst h).imp fun σ H Q q => by
  obtain ⟨ρ, e, h, R, E, a⟩ := q
  refine ⟨ρ, e, h, R, E, (AftA.bindL a).mono fun vs H1 ⟨ρ1, ds, h1, s, R1, r, a1⟩ => ?_⟩
  have l := r.length
  split at a1
  · exact ⟨by rw [sizeLine_eq]; omega, fun p n => a1.made R1 r p n⟩
  · exact a1.elim
theorem se_new (h : SL T X W a g) : SE T X W a (eNew g) := h.imp fun σ H Q q => by
  obtain ⟨ρ, e, h, R, E, a⟩ := q
  refine ⟨ρ, e, h, R, E, (AftL.bind a).mono fun v H1 ⟨ρ1, ds, h1, p, vs, s, R1, ev, el, n, z, r, k, a1⟩ => ?_⟩
  subst ev
  exact a1 (ρ1.add p) (.ref p) H1 (s.adopt z) k (.ref (by rw [R1.len]; exact add_at))
theorem se_lst (h : SL T X W a g) : SE T X W a (eLst g) := h.imp fun σ H Q q => by
  obtain ⟨ρ, e, h, R, E, a⟩ := q
  refine ⟨ρ, e, h, R, E, (AftL.bind a).mono fun v H1 ⟨ρ1, ds, h1, p, vs, s, R1, ev, el, n, z, r, k, a1⟩ => ?_⟩
  subst ev
  exact a1 ρ1 (.ref p) H1 s R1 (.lst n el r)
end
end Lad
end
section
set_option maxRecDepth 100000
set_option maxHeartbeats 2000000
namespace Lad
open PySem PySem.Spec PyProof.Rows L2
end Lad
end
section
set_option maxRecDepth 100000
set_option maxHeartbeats 1000000
namespace Lad
open PySem L2
def rC (S : Sy) (g : Hea → List Val → Option Val) : List V → Hp → VK → Prop := fun vs H Q => ∃ ρ h ds, Rel S ρ h H ∧ Reps S ρ H ds vs ∧ Aft S ρ H (opt (g h ds) h) Q (fun _ _ _ => False)
/-- of one list or tuple, by its items -/
def rIt (S : Sy) (g : List Val → Option Val) : List V → Hp → VK → Prop := fun vs H Q => ∃ ρ h xs us p, Rel S ρ h H ∧ vs = [.ref p] ∧ (SqL S.K H p us ∨ StT S.K H p us) ∧ Reps S ρ H xs us ∧ Aft S ρ H (opt (g xs) h) Q (fun _ _ _ => False)
/-- of one list -/
def rIl (S : Sy) (g : List Val → Option Val) : List V → Hp → VK → Prop := fun vs H Q => ∃ ρ h xs us p, Rel S ρ h H ∧ vs = [.ref p] ∧ SqL S.K H p us ∧ Reps S ρ H xs us ∧ Aft S ρ H (opt (g xs) h) Q (fun _ _ _ => False)
def eCB (g : Hea → List Val → Option Val) (as : En → Hea → Res (List Val)) : En → Hea → Res Val := fun e h => (as e h).bind fun ds h1 => opt (g h1 ds) h1
/-- the argument is a value -/
def eIt (g : List Val → Option Val) (f : En → Hea → Res Val) : En → Hea → Res Val := fun e h => (f e h).bind fun d h1 => match itemsOf h1 d with
  | some xs => opt (g xs) h1
  | none => .stuck
/-- the argument is a list made for it -/
def eItL (g : List Val → Option Val) (f : En → Hea → Res (List Val)) : En → Hea → Res Val := fun e h => (f e h).bind fun xs h1 => opt (g xs) h1
theorem CallR.imp {X : Cx} {f : Value} {r r' : List V → Hp → VK → Prop} (p : CallR X f r) (h : ∀ vs H Q, r' vs H Q → r vs H Q) : CallR X f r' := fun pins s σ H vs us Q I rx q => p pins s σ H vs us Q I rx (h vs H Q q)
section
variable {T : Tb} {X : Cx} {W : WX} {a : Expr} {es : List Expr} {f : En → Hea → Res Val} {g : En → Hea → Res (List Val)} {pos : Pos}
theorem cb_imp {r : Hea → List Val → Option Val} {σ : St} {H : Hp} {Q : VK} (q : tE (sy T X) W (eCB r g) σ H Q) : tCB (rC (sy T X) r) (tA (sy T X) W g) σ H Q := by
  obtain ⟨ρ, e, h, R, E, a⟩ := q
  exact ⟨ρ, e, h, R, E, (AftA.bind a).mono fun vs H1 ⟨ρ1, ds, h1, s, R1, r1, a1⟩ => ⟨ρ1, h1, ds, R1, r1, a1.noW⟩⟩
theorem it_imp {r : List Val → Option Val} {σ : St} {H : Hp} {Q : VK} (q : tE (sy T X) W (eIt r f) σ H Q) : tCB (rIt (sy T X) r) (tCons (tE (sy T X) W f) tNil) σ H Q := by
  obtain ⟨ρ, e, h, R, E, a⟩ := q
  refine ⟨ρ, e, h, R, E, a.bind.mono fun v H1 ⟨ρ1, d, h1, s, R1, r1, a1⟩ => ?_⟩
  split at a1
  · rename_i xs hx
    obtain ⟨p, us, rfl, sq, rr⟩ := items_sq R1 r1 hx
    exact ⟨ρ1, h1, xs, us, p, R1, rfl, sq.symm, rr, a1.noW⟩
  · exact a1.elim
theorem ilL_imp {r : List Val → Option Val} {σ : St} {H : Hp} {Q : VK} (q : tE (sy T X) W (eItL r g) σ H Q) : tCB (rIl (sy T X) r) (tCons (tL (sy T X) W g) tNil) σ H Q := by
  obtain ⟨ρ, e, h, R, E, a⟩ := q
  refine ⟨ρ, e, h, R, E, (AftL.bind a).mono fun v H1 ⟨ρ1, ds, h1, p, vs, s, R1, ev, el, n, z, r1, _, a1⟩ => ?_⟩
  subst ev
  exact ⟨ρ1, h1, ds, vs, p, R1, rfl, .inl (.inl el), r1, (a1.later s).noW⟩
end
def ints? : List Val → Option (List Int)
  | [] => some []
  | .int i :: xs => (ints? xs).map (i :: ·)
  | _ => none
theorem ints_eq : ∀ {xs : List Val} {ns : List Int}, ints? xs = some ns → xs = ns.map Val.int
  | [], ns, e => by cases e; rfl
  | .int i :: xs, ns, e => by
    simp only [ints?] at e
    cases q : ints? xs with
    | none => rw [q] at e; cases e
    | some ms => rw [q] at e; cases e; rw [ints_eq q]; rfl
  | .non :: _, _, e => by cases e
  | .bl _ :: _, _, e => by cases e
  | .str _ :: _, _, e => by cases e
  | .tup _ :: _, _, e => by cases e
  | .ref _ :: _, _, e => by cases e
  | .exn _ _ :: _, _, e => by cases e
  | .err _ _ :: _, _, e => by cases e
  | .lst _ :: _, _, e => by cases e
  | .dic _ _ _ :: _, _, e => by cases e
  | .obj _ _ _ :: _, _, e => by cases e
theorem Reps.bls {S : Sy} {ρ : Own} {H : Hp} : ∀ {ns : List Bool} {vs : List V}, Reps S ρ H (ns.map Val.bl) vs → vs = ns.map V.bl
  | [], _, .nil => rfl
  | n :: ns, _, .cons r t => by
    cases r
    rw [Reps.bls t]
    rfl
def gLen (xs : List Val) : Option Val := some (.int xs.length)
def gSum (xs : List Val) : Option Val := (ints? xs).map fun ns => .int ns.sum
def gAbs : Hea → List Val → Option Val
  | _, [.int i] => some (.int (if i < 0 then -i else i))
  | _, _ => none
def gMax2 : Hea → List Val → Option Val
  | _, [.int i, .int j] => some (.int (if j > i then j else i))
  | _, _ => none
def gMin2 : Hea → List Val → Option Val
  | _, [.int i, .int j] => some (.int (if j < i then j else i))
  | _, _ => none
def gInt : Hea → List Val → Option Val
  | _, [.int i] => some (.int i)
  | _, [.bl k] => some (.int (if k then 1 else 0))
  | _, _ => none
section
variable {T : Tb} {X : Cx}
theorem g_len : CallR X (.builtin "len") (rIt (sy T X) gLen) := CallR.imp call_len_seq fun vs H Q h => by
  obtain ⟨ρ, h, xs, us, p, R, rfl, sq, r, a⟩ := h
  refine ⟨p, us, rfl, sq.imp id StT.sq, ?_⟩
  rw [← r.length]
  exact a.same R (.int _)
theorem g_sum (hc : X.calm = true) : CallR X (.builtin "sum") (rIl (sy T X) gSum) := CallR.imp (cr_sum hc) fun vs H Q h => by
  obtain ⟨ρ, h, xs, us, p, R, rfl, sq, r, a⟩ := h
  unfold gSum at a
  cases e : ints? xs with
  | none => rw [e] at a; exact a.elim
  | some bs =>
    rw [e] at a
    obtain rfl := ints_eq e
    obtain rfl := r.ints
    exact ⟨p, bs, rfl, sq, Aft.same (d := .int _) a R (.int _)⟩
theorem g_abs : CallR X (.builtin "abs") (rC (sy T X) gAbs) := CallR.imp call_abs fun vs H Q h => by
  obtain ⟨ρ, h, ds, R, r, a⟩ := h
  unfold gAbs at a
  split at a
  · obtain rfl := Reps.ints (ns := [_]) r
    exact ⟨_, rfl, Aft.same (d := .int _) a R (.int _)⟩
  · exact a.elim
theorem g_max2 (hc : X.calm = true) : CallR X (.builtin "max") (rC (sy T X) gMax2) := CallR.imp (call_max2 hc) fun vs H Q h => by
  obtain ⟨ρ, h, ds, R, r, a⟩ := h
  unfold gMax2 at a
  split at a
  · obtain rfl := Reps.ints (ns := [_, _]) r
    exact ⟨_, _, rfl, Aft.same (d := .int _) a R (.int _)⟩
  · exact a.elim
theorem g_min2 (hc : X.calm = true) : CallR X (.builtin "min") (rC (sy T X) gMin2) := CallR.imp (call_min2 hc) fun vs H Q h => by
  obtain ⟨ρ, h, ds, R, r, a⟩ := h
  unfold gMin2 at a
  split at a
  · obtain rfl := Reps.ints (ns := [_, _]) r
    exact ⟨_, _, rfl, Aft.same (d := .int _) a R (.int _)⟩
  · exact a.elim
theorem g_int : CallR X (.type "int") (rC (sy T X) gInt) := CallR.imp call_int1 fun vs H Q h => by
  obtain ⟨ρ, h, ds, R, r, a⟩ := h
  unfold gInt at a
  split at a
  · obtain rfl := Reps.ints (ns := [_]) r
    exact .inl ⟨_, rfl, Aft.same (d := .int _) a R (.int _)⟩
  · obtain rfl := Reps.bls (ns := [_]) r
    exact .inr ⟨_, rfl, Aft.same (d := .int _) a R (.int _)⟩
  · exact a.elim
end
inductive BT where
  | int | bool | str | tuple | list | dict
def BT.nm : BT → String
  | .int => "int" | .bool => "bool" | .str => "str" | .tuple => "tuple" | .list => "list" | .dict => "dict"
inductive TK where
  | non | bool | int | str | tuple | list | dict
def TK.nm : TK → String
  | .non => "NoneType" | .bool => "bool" | .int => "int" | .str => "str" | .tuple => "tuple" | .list => "list" | .dict => "dict"
def oIx (h : Hea) (a b : Val) : Option Val := match b with
  | .int i => match itemsOf h a with
    | some xs => atI xs i
    | none => match a with
      | .str z => if z.length ≤ 16777216 then (atI z.cps.toList i).map fun c => .str ⟨#[c]⟩ else none
      | _ => none
  | _ => none
theorem Reps.atI {S : Sy} {ρ : Own} {H : Hp} {xs : List Val} {vs : List V} {i : Int} {d : Val} (r : Reps S ρ H xs vs) (e : atI xs i = some d) : ∃ v, L2.atI vs i = some v ∧ Rep S ρ H d v := by
  unfold L2.atI at e ⊢
  rw [← r.length]
  cases q : ixN xs.length i with
  | none => rw [q] at e; cases e
  | some j =>
    rw [q] at e
    exact r.get e
section
variable {T : Tb} {X : Cx} {W : WX} {a b : Expr} {f1 f2 : En → Hea → Res Val} {pos p p1 p2 p3 : Pos}
theorem IxR.imp {r r' : R2} (p : IxR X r) (h : ∀ x y H Q, r' x y H Q → r x y H Q) : IxR X r' := fun value slice pins s σ H x y v u Q I rx ry q e => p value slice pins s σ H x y v u Q I rx ry (h x y H Q q) e
theorem o_ix : IxR X (rB (sy T X) oIx) := IxR.imp (IxR.or ix_list (IxR.or ix_tup ix_str)) fun x y H Q h => by
  obtain ⟨ρ, h, d1, d2, R, r1, r2, a⟩ := h
  cases d2 with
  | int i =>
    obtain rfl := r2.int_
    simp only [oIx] at a
    cases hx : itemsOf h d1 with
    | some xs =>
      rw [hx] at a
      obtain ⟨p, us, rfl, sq, rr⟩ := items_sq R r1 hx
      cases e : L2.atI xs i with
      | none => simp only [e] at a; exact a.elim
      | some d =>
        simp only [e] at a
        obtain ⟨v, e1, r⟩ := rr.atI e
        rcases sq with sq | sq
        · exact .inr (.inl ⟨p, us, i, v, rfl, rfl, sq.sq, e1, Aft.same (d := d) a R r⟩)
        · exact .inl ⟨p, us, i, v, rfl, rfl, sq, e1, Aft.same (d := d) a R r⟩
    | none =>
      rw [hx] at a
      cases d1 with
      | str z =>
        obtain rfl := r1.str_
        simp only at a
        split at a
        · rename_i hz
          cases e : L2.atI z.cps.toList i with
          | none => rw [e] at a; exact a.elim
          | some c =>
            rw [e] at a
            exact .inr (.inr ⟨z, i, c, rfl, rfl, by rw [sizeLine_eq]; exact hz, e, Aft.same (d := .str _) a R (.str _)⟩)
        · exact a.elim
      | _ => exact a.elim
  | _ => exact a.elim
theorem se_ix (ha : SE T X W a f1) (hb : SE T X W b f2) (hs : PlainIx b := by intro _ _; rfl) : SE T X W (.Subscript a b pos) (eBin oIx f1 f2) := (pe_ix o_ix ha hb hs).imp fun σ H Q q => bin_imp q
end
end Lad
end
section
set_option maxRecDepth 100000
set_option maxHeartbeats 1000000
namespace Lad
open PySem L2
abbrev SSt (T : Tb) (X : Cx) (W : WX) (s : Stmt) (f : En → Hea → SRes) : Prop := PS X s (tS (sy T X) W f)
abbrev SSs (T : Tb) (X : Cx) (W : WX) (s : List Stmt) (f : En → Hea → SRes) : Prop := PSs X s (tS (sy T X) W f)
def ofR {α : Type} (r : Res α) (e : En) (k : α → Hea → SRes) : SRes := match r with
  | .ok a h => k a h
  | .exc c d h => .exc c d e h
  | .stuck => .stuck
section
variable {S : Sy} {W : WX} {H : Hp} {D : Ends} {ρ : Own} {σ : St} {e : En}
theorem AftS.ofR {r : Res Val} {k : Val → Hea → SRes} (a : AftS S ρ H (ofR r e k) D W) (E : ER S ρ H e σ) :
    Aft S ρ H r (fun v H1 => ∃ ρ1 d h1, Go S ρ H ρ1 H1 ∧ Rel S ρ1 h1 H1 ∧ Rep S ρ1 H1 d v ∧ ER S ρ1 H1 e σ ∧ AftS S ρ1 H1 (k d h1) D W) (fun c d H' => W c d σ H') := by
  cases r with
  | ok d h => exact fun ρ1 v H1 s R r => ⟨ρ1, d, h, s, R, r, E.go s, AftS.later (r := k d h) a s⟩
  | exc c d h => exact fun ρ1 v H1 dx s R r x => a ρ1 v σ H1 dx s R r (E.go s) x
  | stuck => exact a
end
def sNil : En → Hea → SRes := fun e h => .nx e h
def sSeq (f g : En → Hea → SRes) : En → Hea → SRes := fun e h => match f e h with
  | .nx e1 h1 => g e1 h1
  | r => r
def sSet (i : Nat) (f : En → Hea → Res Val) : En → Hea → SRes := fun e h => ofR (f e h) e fun d h1 => .nx (e.set i (some d)) h1
def sRet (f : En → Hea → Res Val) : En → Hea → SRes := fun e h => ofR (f e h) e fun d h1 => .rt d h1
def sEx (f : En → Hea → Res Val) : En → Hea → SRes := fun e h => ofR (f e h) e fun _ h1 => .nx e h1
def sIf (f : En → Hea → Res Val) (s1 s2 : En → Hea → SRes) : En → Hea → SRes := fun e h => ofR (f e h) e fun d h1 => match d with
  | .bl true => s1 e h1
  | .bl false => s2 e h1
  | _ => .stuck
/-- targets -/
def gN (i : Nat) : Val → En → Option En := fun v e => some (e.set i (some v))
def setAll : List Nat → List Val → En → Option En
  | [], [], e => some e
  | i :: is, v :: vs, e => setAll is vs (e.set i (some v))
  | _, _, _ => none
def gT (is : List Nat) : Val → En → Option En := fun v e => match v with
  | .tup xs => setAll is xs e
  | _ => none
def sAsg (g : Val → En → Option En) (f : En → Hea → Res Val) : En → Hea → SRes := fun e h => ofR (f e h) e fun d h1 => match g d e with
  | some e1 => .nx e1 h1
  | none => .stuck
/-- a, b, .. = x, y, ..: a display -/
def sPar (is : List Nat) (f : En → Hea → Res (List Val)) : En → Hea → SRes := fun e h => ofR (f e h) e fun ds h1 => match setAll is ds e with
  | some e1 => .nx e1 h1
  | none => .stuck
/-- targets by HandS's readings -/
def GOk (S : Sy) (vs : List Nat) (g : TG) (b : Val → En → Option En) : Prop :=
  ∀ (ρ : Own) (H : Hp) (h : Hea) (e : En) (σ : St) (d : Val) (v : V) (e' : En) (Q : St → Hp → Prop), Rel S ρ h H → ER S ρ H e σ → Rep S ρ H d v → b d e = some e' → (∀ σ', ER S ρ H e' σ' → wipe σ' vs = wipe σ vs → Q σ' H) → g v σ H Q
theorem wipe_set {σ : St} {i : Nat} {o : Option V} : ∀ {vs : List Nat}, i ∈ vs → wipe (σ.set i o) vs = wipe σ vs
  | v :: vs, h => by
    unfold wipe
    by_cases hm : i ∈ vs
    · rw [wipe_set hm]
    · have e : i = v := by
        rcases List.mem_cons.mp h with z | z
        · exact z
        · exact absurd z hm
      subst e
      have key : ∀ ws : List Nat, i ∉ ws → (wipe (σ.set i o) ws).set i none = (wipe σ ws).set i none := by
        intro ws
        induction ws with
        | nil => intro _; show (σ.set i o).set i none = σ.set i none; rw [List.set_set]
        | cons w ws ih =>
          intro hw
          have h1 : i ≠ w := fun z => hw (by rw [z]; exact List.mem_cons_self)
          have h2 : i ∉ ws := fun z => hw (List.mem_cons_of_mem _ z)
          show ((wipe (σ.set i o) ws).set w none).set i none = ((wipe σ ws).set w none).set i none
          rw [List.set_comm _ _ (Ne.symm h1), ih h2, List.set_comm _ _ h1]
      exact key vs hm
theorem gok_name {S : Sy} {i : Nat} {vs : List Nat} (hi : i ∈ vs) : GOk S vs (gName i) (gN i) := fun ρ H h e σ d v e' Q R E r b q => by
  cases b
  exact q _ (E.set r i) (wipe_set hi)
section
variable {T : Tb} {X : Cx} {W : WX} {a b c : Expr} {f : En → Hea → Res Val} {s : Stmt} {ss s1 s2 : List Stmt} {g g1 g2 : En → Hea → SRes} {pos : Pos}
theorem ss_nil : SSs T X W [] sNil := pss_nil.imp fun D σ H q => by
  obtain ⟨ρ, e, h, R, E, a⟩ := q
  exact a ρ σ H .rfl R E
theorem ss_one (h : SSt T X W s g) : SSs T X W [s] g := pss_one h
theorem ss_cons (h1 : SSt T X W s g1) (h2 : SSs T X W ss g2) : SSs T X W (s :: ss) (sSeq g1 g2) := (pss_cons h1 h2).imp fun D σ H q => by
  obtain ⟨ρ, e, h, R, E, a⟩ := q
  refine ⟨ρ, e, h, R, E, ?_⟩
  unfold sSeq at a
  revert a
  cases g1 e h with
  | nx e1 h1 => exact fun a ρ1 σ1 H1 s R1 E1 => ⟨ρ1, e1, h1, R1, E1, AftS.later (r := g2 e1 h1) a s⟩
  | rt v h1 => exact id
  | bk e1 h1 => exact id
  | ct e1 h1 => exact id
  | exc c d e1 h1 => exact id
  | stuck => exact id
theorem st_set {i : Nat} {x : Str} {pos' : Pos} (hN : X.N.Nodup) (hi : X.N[i]? = some x) (hx : Loc X.env.scope x) (ha : SE T X W a f) (hs : swapsWith a (some (.Name x pos')) pos.line X.env = pure false := by rfl)
    (hf : X.fn x = true ∨ X.env.scope.names.lookup x = some .local := by first | exact .inl rfl | exact .inr rfl) : SSt T X W (.Assign [.Name x pos'] a pos) (sSet i f) := (ps_set hN hi hx ha hs hf).imp fun D σ H q => by
  obtain ⟨ρ, e, h, R, E, a⟩ := q
  exact ⟨ρ, e, h, R, E, (a.ofR E).mono fun v H1 ⟨ρ1, d, h1, s, R1, r, E1, a1⟩ => a1 ρ1 _ H1 .rfl R1 (E1.set r i)⟩
theorem st_ret (ha : SE T X W a f) : SSt T X W (.Return (some a) pos) (sRet f) := (ps_ret ha).imp fun D σ H q => by
  obtain ⟨ρ, e, h, R, E, a⟩ := q
  exact ⟨ρ, e, h, R, E, (a.ofR E).mono fun v H1 ⟨ρ1, d, h1, s, R1, r, E1, a1⟩ => a1 ρ1 _ H1 .rfl R1 r⟩
theorem st_if (hc : ST T X W c f) (h1 : SSs T X W s1 g1) (h2 : SSs T X W s2 g2) : SSt T X W (.If c s1 s2 pos) (sIf f g1 g2) := (ps_if hc h1 h2).imp fun D σ H q => by
  obtain ⟨ρ, e, h, R, E, a⟩ := q
  refine ⟨ρ, e, h, R, E, (a.ofR E).mono fun v H1 ⟨ρ1, d, h1, s, R1, r, E1, a1⟩ => ?_⟩
  split at a1
  · obtain rfl := r.bl_
    refine ⟨true, rfl, ?_⟩
    refine itT rfl ?_
    exact ⟨ρ1, e, h1, R1, E1, a1⟩
  · obtain rfl := r.bl_
    refine ⟨false, rfl, ?_⟩
    refine itF rfl ?_
    exact ⟨ρ1, e, h1, R1, E1, a1⟩
  · exact a1.elim
end
structure Src where
  item : Nat → Hea → Option (Option Val)
  fuel : Nat
  /-- the items, where they stand -/
  fix : Option (List Val)
  ok : ∀ xs, fix = some xs → item = (fun k _ => if k ≤ xs.length then some xs[k]? else none) ∧ fuel = xs.length + 1
def srcFix (xs : List Val) : Src := ⟨fun k _ => if k ≤ xs.length then some xs[k]? else none, xs.length + 1, some xs, fun _ h => by cases h; exact ⟨rfl, rfl⟩⟩
def srcLive (i : Nat) : Src := ⟨fun k h => (lstAt h i).map fun xs => xs[k]?, 100000, none, fun _ h => nomatch h⟩
def JOk (S : Sy) (ρ : Own) (H : Hp) (J : It) (it : Nat → Hea → Option (Option Val)) : Prop :=
  ∀ (ρ' : Own) (H' : Hp) (h' : Hea), Mv S ρ H ρ' H' → Rel S ρ' h' H' → ∀ k, match it k h' with
    | some none => J.stop k H'
    | some (some d) => J.go k H' ∧ ∀ x H'', J.yld k H' x H'' → Go S ρ' H' ρ' H'' ∧ Rel S ρ' h' H'' ∧ Rep S ρ' H'' d x
    | none => True
def AftI (S : Sy) (ρ : Own) (H : Hp) (r : Res Src) (R : It → Hp → Prop) (W : XK) : Prop := match r with
  | .ok s h' => ∀ ρ' H' J, Go S ρ H ρ' H' → Rel S ρ' h' H' → JOk S ρ' H' J s.item → R J H'
  | .exc c d h' => ∀ ρ' v H' dx, Go S ρ H ρ' H' → Rel S ρ' h' H' → Rep S ρ' H' d v → H' dx = some (.xd [(S.fld c, v)]) → W (.ref (S.ca c)) (some dx) H'
  | .stuck => False
def tI (S : Sy) (W : WX) (f : En → Hea → Res Src) : TI := fun σ H R => ∃ ρ e h, Rel S ρ h H ∧ ER S ρ H e σ ∧ AftI S ρ H (f e h) R (fun c d H' => W c d σ H')
abbrev SI (T : Tb) (X : Cx) (W : WX) (tg iter : Expr) (f : En → Hea → Res Src) : Prop := PI X tg iter (tI (sy T X) W f)
theorem _root_.L2.PI.imp {X : Cx} {tg e : Expr} {t t' : TI} (p : PI X tg e t) (h : ∀ σ H Q, t' σ H Q → t σ H Q) : PI X tg e t' := ⟨fun pins s σ H Q I q => p.run pins s σ H Q I (h σ H Q q)⟩
section
variable {S : Sy} {H : Hp} {ρ : Own}
theorem AftI.mono {r : Res Src} {R R' : It → Hp → Prop} {W : XK} (a : AftI S ρ H r R W) (h : ∀ v H', R v H' → R' v H') : AftI S ρ H r R' W := by
  cases r with
  | ok d h' => exact fun ρ1 H1 J s R j => h _ _ (a ρ1 H1 J s R j)
  | exc c d h' => exact a
  | stuck => exact a
theorem AftI.later {ρ1 : Own} {H1 : Hp} {r : Res Src} {R : It → Hp → Prop} {W : XK} (a : AftI S ρ H r R W) (s : Go S ρ H ρ1 H1) : AftI S ρ1 H1 r R W := by
  cases r with
  | ok d h' => exact fun ρ2 H2 J s2 => a ρ2 H2 J (s.trans s2)
  | exc c d h' => exact fun ρ2 v H2 dx s2 => a ρ2 v H2 dx (s.trans s2)
  | stuck => exact a
theorem AftI.bind {r : Res Val} {k : Val → Hea → Res Src} {R : It → Hp → Prop} {W : XK} (a : AftI S ρ H (r.bind k) R W) :
    Aft S ρ H r (fun v H1 => ∃ ρ1 d h1, Go S ρ H ρ1 H1 ∧ Rel S ρ1 h1 H1 ∧ Rep S ρ1 H1 d v ∧ AftI S ρ1 H1 (k d h1) R W) W := by
  cases r with
  | ok d h => exact fun ρ1 v H1 s R r => ⟨ρ1, d, h, s, R, r, AftI.later (r := k d h) a s⟩
  | exc c d h => exact a
  | stuck => exact a
theorem AftI.bindA {r : Res (List Val)} {k : List Val → Hea → Res Src} {R : It → Hp → Prop} {W : XK} (a : AftI S ρ H (r.bind k) R W) :
    AftA S ρ H r (fun v H1 => ∃ ρ1 d h1, Go S ρ H ρ1 H1 ∧ Rel S ρ1 h1 H1 ∧ Reps S ρ1 H1 d v ∧ AftI S ρ1 H1 (k d h1) R W) W := by
  cases r with
  | ok d h => exact fun ρ1 v H1 s R r => ⟨ρ1, d, h, s, R, r, AftI.later (r := k d h) a s⟩
  | exc c d h => exact a
  | stuck => exact a
theorem AftI.bindL {r : Res (List Val)} {k : List Val → Hea → Res Src} {R : It → Hp → Prop} {W : XK} (a : AftI S ρ H (r.bind k) R W) :
    AftL S ρ H r (fun v H1 => ∃ ρ1 d h1 p vs, Go S ρ H ρ1 H1 ∧ Rel S ρ1 h1 H1 ∧ v = .ref p ∧ H1 p = some (.lst vs) ∧ Fz ρ1 p ∧ Reps S ρ1 H1 d vs ∧ AftI S ρ1 H1 (k d h1) R W) W := by
  cases r with
  | ok d h => exact fun ρ1 p v H1 s R e n z r _ => ⟨ρ1, d, h, p, v, s, R, rfl, e, n, r, AftI.later (r := k d h) a s⟩
  | exc c d h => exact a
  | stuck => exact a
theorem jfix {J : It} {xs : List Val} (w : ∀ (ρ' : Own) (H' : Hp) (h' : Hea), Mv S ρ H ρ' H' → Rel S ρ' h' H' → ∀ k, k ≤ xs.length → match some xs[k]? with
    | some none => J.stop k H'
    | some (some d) => J.go k H' ∧ ∀ x H'', J.yld k H' x H'' → Go S ρ' H' ρ' H'' ∧ Rel S ρ' h' H'' ∧ Rep S ρ' H'' d x
    | none => True) : JOk S ρ H J (srcFix xs).item := fun ρ' H' h' g R k => by
  show match (if k ≤ xs.length then some xs[k]? else none) with | some none => _ | some (some d) => _ | none => _
  by_cases hk : k ≤ xs.length
  · rw [if_pos hk]
    exact w ρ' H' h' g R k hk
  · rw [if_neg hk]
    exact True.intro
/-- a tuple -/
theorem j_tup {a : Addr} {xs : List Val} {vs : List V} (sq : SqT S.K H a vs) (r : Reps S ρ H xs vs) : JOk S ρ H (Itt S.K a) (srcFix xs).item := jfix fun ρ' H' h' g R k _ => by
  have sq' := g.kp.1 _ _ sq
  have r' := r.mono g
  show match some xs[k]? with | some none => _ | some (some d) => _ | none => _
  cases e : xs[k]? with
  | none =>
    have hk : xs.length ≤ k := List.getElem?_eq_none_iff.mp e
    exact ⟨vs, sq', by rw [← r.length]; exact hk⟩
  | some d =>
    obtain ⟨v, ev, rv⟩ := r'.get e
    refine ⟨⟨vs, v, sq', ev⟩, fun x H'' ⟨eh, q⟩ => ?_⟩
    subst eh
    have z := q vs sq'
    rw [ev] at z
    cases z
    exact ⟨.rfl, R, rv⟩
/-- a list that nothing else holds -/
theorem j_tmp {a : Addr} {xs : List Val} {vs : List V} (sq : H a = some (.lst vs)) (n : Fz ρ a) (r : Reps S ρ H xs vs) : JOk S ρ H (Itl S.K a) (srcFix xs).item := jfix fun ρ' H' h' g R k _ => by
  have e' := g.lst n sq
  have sq' : SqL S.K H' a vs := .inl (.inl e')
  have r' := r.mono g
  show match some xs[k]? with | some none => _ | some (some d) => _ | none => _
  cases e : xs[k]? with
  | none =>
    have hk : xs.length ≤ k := List.getElem?_eq_none_iff.mp e
    exact ⟨vs, sq', by rw [← r.length]; exact hk⟩
  | some d =>
    obtain ⟨v, ev, rv⟩ := r'.get e
    refine ⟨⟨vs, v, sq', ev⟩, fun x H'' ⟨eh, q⟩ => ?_⟩
    subst eh
    have z := q vs sq'
    rw [ev] at z
    cases z
    exact ⟨.rfl, R, rv⟩
/-- a list of the heap, as it stands at each turn -/
theorem j_live {a : Addr} {i : Nat} (ea : ρ.nm[i]? = some a) : JOk S ρ H (Itl S.K a) (srcLive i).item := fun ρ' H' h' g R k => by
  show match (lstAt h' i).map fun xs => xs[k]? with | some none => _ | some (some d) => _ | none => _
  cases el : lstAt h' i with
  | none => exact True.intro
  | some xs =>
    obtain ⟨vs, sq', r'⟩ := R.lst el (g.sub _ _ ea)
    show match some xs[k]? with | some none => _ | some (some d) => _ | none => _
    cases e : xs[k]? with
    | none =>
      have hk : xs.length ≤ k := List.getElem?_eq_none_iff.mp e
      exact ⟨vs, sq', by rw [← r'.length]; exact hk⟩
    | some d =>
      obtain ⟨v, ev, rv⟩ := r'.get e
      refine ⟨⟨vs, v, sq', ev⟩, fun x H'' ⟨eh, q⟩ => ?_⟩
      subst eh
      have z := q vs sq'
      rw [ev] at z
      cases z
      exact ⟨.rfl, R, rv⟩
def rangeV (lo : Int) (n : Nat) : List Val := (List.range n).map fun (i : Nat) => Val.int (lo + (i : Int))
theorem j_range {lo : Int} {n : Nat} : JOk S ρ H (Itr lo n) (srcFix (rangeV lo n)).item := jfix fun ρ' H' h' g R k _ => by
  show match some (rangeV lo n)[k]? with | some none => _ | some (some d) => _ | none => _
  by_cases hk : k < n
  · have e : (rangeV lo n)[k]? = some (.int (lo + (k : Int))) := by
      unfold rangeV
      rw [List.getElem?_map, List.getElem?_range hk]
      rfl
    rw [e]
    refine ⟨hk, fun x H'' ⟨eh, q⟩ => ?_⟩
    subst eh q
    exact ⟨.rfl, R, .int _⟩
  · have e : (rangeV lo n)[k]? = none := by
      unfold rangeV
      rw [List.getElem?_eq_none_iff]
      simpa using hk
    rw [e]
    exact Nat.le_of_not_lt hk
end
/-- sources -/
def iVal (f : En → Hea → Res Val) : En → Hea → Res Src := fun e h => (f e h).bind fun d h1 => match d with
  | .ref i => if (lstAt h1 i).isSome = true then .ok (srcLive i) h1 else .stuck
  | .lst xs => .ok (srcFix xs) h1
  | _ => .stuck
def iTupV (f : En → Hea → Res Val) : En → Hea → Res Src := fun e h => (f e h).bind fun d h1 => match d with
  | .tup xs => .ok (srcFix xs) h1
  | _ => .stuck
def iTmp (f : En → Hea → Res (List Val)) : En → Hea → Res Src := fun e h => (f e h).bind fun xs h1 => .ok (srcFix xs) h1
def rngOk (i : Int) : Bool := decide (-(2 ^ 62) ≤ i ∧ i < 2 ^ 62)
def iRng1V (f : En → Hea → Res (List Val)) : En → Hea → Res Src := fun e h => (f e h).bind fun ds h1 => match ds with
  | [.int j] => if rngOk j = true then .ok (srcFix (rangeV 0 j.toNat)) h1 else .stuck
  | _ => .stuck
section
variable {T : Tb} {X : Cx} {W : WX} {tg a b c : Expr} {f : En → Hea → Res Val} {g : En → Hea → Res (List Val)} {pos p : Pos}
theorem si_val (ha : SE T X W a f) : SI T X W tg a (iVal f) := (pi_list ha).imp fun σ H Q q => by
  obtain ⟨ρ, e, h, R, E, a⟩ := q
  refine ⟨ρ, e, h, R, E, (AftI.bind a).mono fun v H1 ⟨ρ1, d, h1, s, R1, r, a1⟩ => ?_⟩
  split at a1
  · obtain ⟨p, rfl, ea⟩ := r.ref_
    split at a1
    · rename_i i hs
      obtain ⟨xs, hx⟩ := Option.isSome_iff_exists.mp hs
      obtain ⟨vs, sq, _⟩ := R1.lst hx ea
      exact ⟨p, rfl, ⟨vs, sq⟩, a1 ρ1 H1 _ .rfl R1 (j_live ea)⟩
    · exact a1.elim
  · cases r with
    | lst f h1 h2 => exact ⟨_, rfl, ⟨_, .inl (.inl h1)⟩, a1 ρ1 H1 _ .rfl R1 (j_tmp h1 f h2)⟩
  · exact a1.elim
theorem si_tup (ha : SE T X W a f) : SI T X W tg a (iTupV f) := (pi_tup ha).imp fun σ H Q q => by
  obtain ⟨ρ, e, h, R, E, a⟩ := q
  refine ⟨ρ, e, h, R, E, (AftI.bind a).mono fun v H1 ⟨ρ1, d, h1, s, R1, r, a1⟩ => ?_⟩
  split at a1
  · obtain ⟨p, vs, rfl, sq, rr⟩ := r.tup_
    exact ⟨p, rfl, ⟨vs, sq.sq⟩, a1 ρ1 H1 _ .rfl R1 (j_tup sq.sq rr)⟩
  · exact a1.elim
theorem si_tmp (ha : SL T X W a g) : SI T X W tg a (iTmp g) := (pi_list ha).imp fun σ H Q q => by
  obtain ⟨ρ, e, h, R, E, a⟩ := q
  refine ⟨ρ, e, h, R, E, (AftI.bindL a).mono fun v H1 ⟨ρ1, d, h1, p, vs, s, R1, ev, el, n, r, a1⟩ => ?_⟩
  subst ev
  exact ⟨p, rfl, ⟨vs, .inl (.inl el)⟩, a1 ρ1 H1 _ .rfl R1 (j_tmp el n r)⟩
theorem si_range1 (hg : Gl X "range") (hm : X.mg "range" = none) (ha : SA T X W [a] g) (hs : starEach [a] X.env = [(false, eval a X.env)] := by rfl) : SI T X W tg (.Call (.Name "range" p) [a] [] pos) (iRng1V g) := (pi_range1 hg hm ha hs).imp fun σ H Q q => by
  obtain ⟨ρ, e, h, R, E, a⟩ := q
  refine ⟨ρ, e, h, R, E, (AftI.bindA a).mono fun v H1 ⟨ρ1, d, h1, s, R1, r, a1⟩ => ?_⟩
  split at a1
  · obtain rfl := Reps.ints (ns := [_]) r
    split at a1
    · rename_i hr
      have hr := of_decide_eq_true hr
      exact ⟨_, rfl, hr.1, hr.2, a1 ρ1 H1 _ .rfl R1 j_range⟩
    · exact a1.elim
  · exact a1.elim
end
def forG (it : Nat → Hea → Option (Option Val)) (b : Val → En → Option En) (body : En → Hea → SRes) : Nat → Nat → En → Hea → SRes
  | 0, _, _, _ => .stuck
  | n + 1, k, e, h => match it k h with
    | some none => .nx e h
    | some (some v) => match b v e with
      | some e1 => match body e1 h with
        | .nx e2 h2 => forG it b body n (k + 1) e2 h2
        | .ct e2 h2 => forG it b body n (k + 1) e2 h2
        | .bk e2 h2 => .nx e2 h2
        | r => r
      | none => .stuck
    | none => .stuck
def forL (b : Val → En → Option En) (body : En → Hea → SRes) : List Val → En → Hea → SRes
  | [], e, h => .nx e h
  | v :: vs, e, h => match b v e with
    | some e1 => match body e1 h with
      | .nx e2 h2 => forL b body vs e2 h2
      | .ct e2 h2 => forL b body vs e2 h2
      | .bk e2 h2 => .nx e2 h2
      | r => r
    | none => .stuck
theorem fix_item (xs : List Val) {k : Nat} (hk : k ≤ xs.length) (h : Hea) : (srcFix xs).item k h = some xs[k]? := by
  show (if k ≤ xs.length then some xs[k]? else none) = _
  rw [if_pos hk]
theorem forG_fix (b : Val → En → Option En) (body : En → Hea → SRes) (xs : List Val) : ∀ (m k : Nat) (e : En) (h : Hea), k + m = xs.length + 1 → 0 < m → forG (srcFix xs).item b body m k e h = forL b body (xs.drop k) e h := by
  intro m
  induction m with
  | zero => intro k e h hm h0; omega
  | succ m ih =>
    intro k e h hm _
    unfold forG
    rw [fix_item xs (by omega)]
    by_cases hk : k < xs.length
    · rw [List.getElem?_eq_getElem hk, List.drop_eq_getElem_cons hk]
      unfold forL
      dsimp only
      cases b xs[k] e with
      | none => rfl
      | some e1 =>
        dsimp only
        cases body e1 h with
        | nx e2 h2 => exact ih (k + 1) e2 h2 (by omega) (by omega)
        | ct e2 h2 => exact ih (k + 1) e2 h2 (by omega) (by omega)
        | _ => rfl
    · rw [List.getElem?_eq_none_iff.mpr (by omega), List.drop_eq_nil_of_le (by omega)]
      rfl
def runFor (s : Src) (b : Val → En → Option En) (body : En → Hea → SRes) (e : En) (h : Hea) : SRes := match s.fix with
  | some xs => forL b body xs e h
  | none => forG s.item b body s.fuel 0 e h
theorem runFor_eq {s : Src} {b : Val → En → Option En} {body : En → Hea → SRes} {e : En} {h : Hea} : runFor s b body e h = forG s.item b body s.fuel 0 e h := by
  unfold runFor
  cases hf : s.fix with
  | none => rfl
  | some xs =>
    obtain ⟨e1, e2⟩ := s.ok xs hf
    rw [e1, e2]
    exact (forG_fix b body xs (xs.length + 1) 0 e h (by omega) (by omega)).symm
def sFor (src : En → Hea → Res Src) (b : Val → En → Option En) (body : En → Hea → SRes) : En → Hea → SRes := fun e h => ofR (src e h) e fun s h1 => runFor s b body e h1
section
variable {S : Sy} {W : WX} {H : Hp} {D : Ends} {ρ : Own} {σ : St} {e : En}
theorem AftS.ofI {r : Res Src} {k : Src → Hea → SRes} (a : AftS S ρ H (Lad.ofR r e k) D W) (E : ER S ρ H e σ) :
    AftI S ρ H r (fun J H1 => ∃ ρ1 d h1, Go S ρ H ρ1 H1 ∧ Rel S ρ1 h1 H1 ∧ JOk S ρ1 H1 J d.item ∧ ER S ρ1 H1 e σ ∧ AftS S ρ1 H1 (k d h1) D W) (fun c d H' => W c d σ H') := by
  cases r with
  | ok d h => exact fun ρ1 H1 J s R r => ⟨ρ1, d, h, s, R, r, E.go s, AftS.later (r := k d h) a s⟩
  | exc c d h => exact fun ρ1 v H1 dx s R r x => a ρ1 v σ H1 dx s R r (E.go s) x
  | stuck => exact a
end
section
variable {T : Tb} {X : Cx} {W : WX} {tg a : Expr} {src : En → Hea → Res Src} {f : En → Hea → Res Val} {body : List Stmt} {fb : En → Hea → SRes} {g : TG} {b : Val → En → Option En} {vs : List Nat} {pos : Pos}
theorem st_for (hp : PassesOwn (model X.prog X.w) X.A X.env X.xe) (hc : X.calm = true) (hi : SI T X W tg a src) (hg : PG X tg g) (ok : GOk (sy T X) vs g b) (hb : SSs T X W body fb) (hs : ∀ x, foldedSetIterable a X.env x = pure x := by intro _; rfl) :
    SSt T X W (.For tg a body [] pos) (sFor src b fb) := by
  refine PS.imp (ps_for hp hc hi hg hb hs) fun D σ H q => ?_
  obtain ⟨ρ, e, h, R, E, a⟩ := q
  refine ⟨ρ, e, h, R, E, (a.ofI E).mono fun J H1 ⟨ρ1, d, h1, s, R1, j, E1, a1⟩ => ?_⟩
  have a1 : AftS (sy T X) ρ1 H1 (forG d.item b fb d.fuel 0 e h1) D W := by rw [← runFor_eq]; exact a1
  refine ⟨fun k m σ H2 => ∃ ρ2 e2 h2, Go (sy T X) ρ1 H1 ρ2 H2 ∧ Rel (sy T X) ρ2 h2 H2 ∧ ER (sy T X) ρ2 H2 e2 σ ∧ AftS (sy T X) ρ2 H2 (forG d.item b fb m k e2 h2) D W, ⟨d.fuel, ρ1, e, h1, .rfl, R1, E1, a1⟩, fun k m σ H2 w => ?_⟩
  obtain ⟨ρ2, e2, h2, g2, R2, E2, a2⟩ := w
  cases m with
  | zero => exact a2.elim
  | succ m =>
    have jk := j ρ2 H2 h2 g2.mv R2 k
    unfold forG at a2
    cases hit : d.item k h2 with
    | none => rw [hit] at a2; exact a2.elim
    | some o =>
      rw [hit] at a2 jk
      cases o with
      | none => exact .inl ⟨jk, a2 ρ2 σ H2 .rfl R2 E2⟩
      | some v =>
        refine .inr ⟨jk.1, fun σ' H' => ∃ ρ2 e2 h2, Go (sy T X) ρ1 H1 ρ2 H' ∧ Rel (sy T X) ρ2 h2 H' ∧ ER (sy T X) ρ2 H' e2 σ' ∧ AftS (sy T X) ρ2 H' (forG d.item b fb m (k + 1) e2 h2) D W, fun σ' H' z => ⟨m, Nat.lt_succ_self m, z⟩, fun x H' y => ?_⟩
        obtain ⟨g3, R3, r3⟩ := jk.2 x H' y
        dsimp only at a2
        cases hbv : b v e2 with
        | none => rw [hbv] at a2; exact a2.elim
        | some e3 =>
          rw [hbv] at a2
          refine ok ρ2 H' h2 e2 σ v x e3 _ R3 (E2.go g3) r3 hbv fun σ3 E3 _ => ⟨ρ2, e3, h2, R3, E3, ?_⟩
          have g4 := g2.trans g3
          have a3 := AftS.later a2 g3
          dsimp only at a3
          revert a3
          cases fb e3 h2 with
          | nx e4 h4 => exact fun a3 ρ4 σ4 H4 s4 R4 E4 => ⟨ρ4, e4, h4, g4.trans s4, R4, E4, a3.later s4⟩
          | ct e4 h4 => exact fun a3 ρ4 σ4 H4 s4 R4 E4 => ⟨ρ4, e4, h4, g4.trans s4, R4, E4, a3.later s4⟩
          | bk e4 h4 => exact fun a3 ρ4 σ4 H4 s4 R4 E4 => a3 ρ4 σ4 H4 s4 R4 E4
          | rt v4 h4 => exact fun a3 => a3
          | exc c4 d4 e4 h4 => exact fun a3 => a3
          | stuck => exact fun a3 => a3
end
end Lad
end
section
set_option maxRecDepth 100000
set_option maxHeartbeats 1000000
namespace Lad
open PySem L2
def noX {α : Type} (r : Res α) : Res α := match r with
  | .ok a h => .ok a h
  | _ => .stuck
def eYes : En → Hea → Res Val := fun _ h => .ok (.bl true) h
abbrev W0 : WX := fun _ _ _ _ => False
section
variable {S : Sy} {ρ ρ1 ρ2 : Own} {H H1 Hc : Hp} {h : Hea} {D : Addr} {us us' : List V}
theorem Go.tmp (g : Go S ρ1 H1 ρ2 Hc) (z : H1 D = Option.none) (e : Hc D = some (.lst us)) : Go S ρ1 H1 ρ2 (upd Hc D (.lst us')) :=
  ⟨g.sub, g.kp.trans (.put e True.intro), fun a o q n => by rw [upd_ne (ne_of_none q z)]; exact g.fr a o q n, g.nw, g.hd⟩
/-- what is being made is changed -/
theorem Rel.off (R : Rel S ρ h H) {o : HO} {u : HO} (n : Off ρ D) (m : D ∈ ρ.hd) (e : H D = some u) (h1 : Ch u) : Rel S ρ h (upd H D o) :=
  ⟨R.len, R.inj, fun i ob a e1 e2 => (R.ob i ob a e1 e2).mono (.hid m e h1) (upd_ne fun z => n i (z ▸ e2)), fun a m => let ⟨⟨_, e⟩, z⟩ := R.hid a m; ⟨upd_some e, z⟩⟩
theorem Rel.hideNew (R : Rel S ρ h H) {o : HO} (n : H D = none) : Rel S (ρ.hide D) h (upd H D o) := by
  have m : Mv S ρ H (ρ.hide D) (upd H D o) := ⟨fun _ _ h => h, .new n, fun a u e f => ⟨⟨u, by rw [upd_ne (ne_of_none e n)]; exact e, .rfl⟩, f.1, fun m => by
    rcases List.mem_cons.mp m with m | m
    · exact ne_of_none e n m
    · exact f.2 m⟩⟩
  refine ⟨R.len, R.inj, fun i ob a e1 e2 => (R.ob i ob a e1 e2).mono m (upd_ne fun z => R.free n (z ▸ e2)), fun a m => ?_⟩
  rcases List.mem_cons.mp m with m | m
  · subst m
    exact ⟨⟨_, upd_same⟩, fun i z => R.free n z⟩
  · obtain ⟨⟨_, e⟩, z⟩ := R.hid a m
    exact ⟨upd_some e, z⟩
theorem Go.reh {η : List Addr} (g : Go S ρ H ρ1 H1) (hh : ρ.hd = D :: η) : Go S ⟨ρ.nm, η⟩ H ⟨ρ1.nm, η⟩ H1 := ⟨g.sub, g.kp, fun a o e n => ⟨(g.fr a o e n).1, fun m => (g.fr a o e n).2 (by rw [hh]; exact List.mem_cons_of_mem _ m)⟩, g.nw, Eq.refl _⟩
theorem Go.mvh (g : Go S ρ1 H1 ⟨ρ2.nm, ρ1.hd⟩ Hc) (hh : ρ2.hd = D :: ρ1.hd) (z : H1 D = Option.none) : Mv S ρ1 H1 ρ2 Hc := ⟨g.sub, g.kp, fun a o e f => by
  obtain ⟨h1, h2⟩ := g.mv.fz a o e f
  refine ⟨h1, h2.1, ?_⟩
  rw [hh]
  intro m
  rcases List.mem_cons.mp m with m | m
  · exact ne_of_none e z m
  · exact f.2 m⟩
end
section
variable {T : Tb} {X : Cx} {W : WX} {tg iter elt : Expr} {ifs : List Expr} {scope : Scope} {own : List (Str × Nat)} {src : En → Hea → Res Src} {tt f : En → Hea → Res Val} {g : TG} {b : Val → En → Option En} {pos : Pos}
theorem _root_.L2.PTs.imp {t t' : TT} (p : PTs X ifs t) (h : ∀ σ H Q, t' σ H Q → t σ H Q) : PTs X ifs t' := ⟨fun pins s σ H Q I q => p.run pins s σ H Q I (h σ H Q q)⟩
end
end Lad
end
section
set_option maxRecDepth 100000
set_option maxHeartbeats 1000000
namespace Lad
open PySem L2
mutual
def Val.und (n : Nat) : Val → Bool
  | .tup xs => undL n xs
  | .lst xs => undL n xs
  | .dic _ _ vs => undL n vs
  | .obj _ _ vs => undL n vs
  | .ref i => Nat.blt i n
  | .exn _ d => d.und n
  | .err _ d => d.und n
  | _ => true
def undL (n : Nat) : List Val → Bool
  | [] => true
  | x :: xs => x.und n && undL n xs
end
def undKv (n : Nat) : List (Val × Val) → Bool
  | [] => true
  | (_, x) :: xs => x.und n && undKv n xs
mutual
theorem nk_rep {S S' : Sy} {ρ ρ' : Own} {H : Hp} (hK : S'.K = S.K) : ∀ (n : Nat) {d : Val} {k : NestedKey} {v : V}, nkF n d = some k → Rep S ρ H d v → Rep S' ρ' H d v
  | n + 1, .tup xs, _, _, e, .tup sq r => by
    unfold nkF at e
    cases hk : nkAll (nkF n) xs with
    | none => rw [hk] at e; cases e
    | some ks => exact .tup (by rw [hK]; exact sq) (nk_reps hK n hk r)
  | 0, .tup xs, _, _, e, _ => by cases e
  | _, .int i, _, _, _, .int _ => .int i
  | _, .bl i, _, _, _, .bl _ => .bl i
  | _, .str i, _, _, _, .str _ => .str i
  | _, .non, _, _, _, .non => .non
  | 0, .lst _, _, _, e, _ => by cases e
  | n + 1, .lst _, _, _, e, _ => by cases e
  | 0, .dic _ _ _, _, _, e, _ => by cases e
  | n + 1, .dic _ _ _, _, _, e, _ => by cases e
  | 0, .obj _ _ _, _, _, e, _ => by cases e
  | n + 1, .obj _ _ _, _, _, e, _ => by cases e
  | 0, .ref _, _, _, e, _ => by cases e
  | n + 1, .ref _, _, _, e, _ => by cases e
  | 0, .exn _ _, _, _, e, _ => by cases e
  | 0, .err _ _, _, _, e, _ => by cases e
  | n + 1, .exn _ _, _, _, e, _ => by cases e
  | n + 1, .err _ _, _, _, e, _ => by cases e
theorem nk_reps {S S' : Sy} {ρ ρ' : Own} {H : Hp} (hK : S'.K = S.K) : ∀ (n : Nat) {ds : List Val} {ks : List NestedKey} {vs : List V}, nkAll (nkF n) ds = some ks → Reps S ρ H ds vs → Reps S' ρ' H ds vs
  | _, [], _, _, _, .nil => .nil
  | n, d :: ds, _, _, e, .cons r t => by
    unfold nkAll at e
    cases h1 : nkF n d with
    | none => rw [h1] at e; cases e
    | some k =>
      cases h2 : nkAll (nkF n) ds with
      | none => rw [h1, h2] at e; cases e
      | some ks => exact .cons (nk_rep hK n h1 r) (nk_reps hK n h2 t)
end
theorem toNK_rep {S S' : Sy} {ρ ρ' : Own} {H : Hp} (hK : S'.K = S.K) {d : Val} {k : NestedKey} {v : V} (e : toNK d = some k) (r : Rep S ρ H d v) : Rep S' ρ' H d v := by
  unfold toNK at e
  cases d with
  | tup xs => exact nk_rep hK 8 e r
  | _ => cases e
theorem toNK_reps {S S' : Sy} {ρ ρ' : Own} {H : Hp} (hK : S'.K = S.K) : ∀ {ds : List Val} {vs : List V} {ps : List (NestedKey × Addr × V)}, ds.map toNK = ps.map (fun p => some p.1) → Reps S ρ H ds vs → Reps S' ρ' H ds vs
  | [], _, _, _, .nil => .nil
  | d :: ds, _, [], e, _ => by cases e
  | d :: ds, _, p :: ps, e, .cons r t => by
    rw [List.map_cons, List.map_cons] at e
    injection e with e1 e2
    exact .cons (toNK_rep hK e1 r) (toNK_reps hK e2 t)
theorem KvN.split {S : Sy} {ρ : Own} {H : Hp} : ∀ {d : List (Val × Val)} {v : List (NestedKey × Addr × V)}, KvN S ρ H d v → Reps S ρ H (d.map (·.1)) (v.map (fun p => V.ref p.2.1)) ∧ (d.map (·.1)).map toNK = v.map (fun p => some p.1) ∧ Reps S ρ H (d.map (·.2)) (v.map (·.2.2))
  | _, _, .nil => ⟨.nil, rfl, .nil⟩
  | _, _, .cons r e q t => ⟨.cons r t.split.1, by simp [t.split.2.1, e], .cons q t.split.2.2⟩
theorem KvN.zip {S : Sy} {ρ : Own} {H : Hp} : ∀ {ks ds : List Val} {ps : List (NestedKey × Addr × V)}, Reps S ρ H ks (ps.map (fun p => V.ref p.2.1)) → ks.map toNK = ps.map (fun p => some p.1) → Reps S ρ H ds (ps.map (·.2.2)) → KvN S ρ H (ks.zip ds) ps
  | [], _, [], _, _, _ => .nil
  | k :: ks, _, [], _, e, _ => by cases e
  | [], _, p :: ps, _, e, _ => by cases e
  | k :: ks, [], p :: ps, _, _, r => by cases r
  | k :: ks, d :: ds, p :: ps, .cons r1 t1, e, .cons r2 t2 => by
    rw [List.map_cons, List.map_cons] at e
    injection e with e1 e2
    exact .cons r1 e1 r2 (KvN.zip t1 e2 t2)
def undFs (n : Nat) : List (Nat × Val) → Bool
  | [] => true
  | (_, x) :: xs => x.und n && undFs n xs
def Ob.und (n : Nat) : Ob → Bool
  | .lst xs => undL n xs
  | .fro _ => true
  | .dcK kvs => undKv n kvs
  | .dcT kvs => undKv n kvs
  | .dcL kvs => undKv n kvs
  | .dcM kvs => undKv n kvs
  | .ins _ fs => undFs n fs
/-- the first n things of the heap name one another alone -/
def shut (n : Nat) : Nat → Hea → Option Hea
  | 0, _ => some []
  | _ + 1, [] => none
  | k + 1, o :: h => if o.und n = true then (shut n k h).map (o :: ·) else none
theorem Sub.cut {ρ ρ' : Own} (s : Sub ρ ρ') {i : Nat} {a : Addr} (hi : Nat.blt i ρ.nm.length = true) (e : ρ'.nm[i]? = some a) : ρ.nm[i]? = some a := by
  have lt : i < ρ.nm.length := Nat.le_of_ble_eq_true hi
  have := s i _ (List.getElem?_eq_getElem lt)
  rw [e] at this
  cases this
  exact List.getElem?_eq_getElem lt
/-- ρ' has more names than ρ -/
structure Less (ρ ρ' : Own) : Prop where
  sub : Sub ρ ρ'
  hd : ρ'.hd = ρ.hd
theorem Less.fz {ρ ρ' : Own} (s : Less ρ ρ') {a : Addr} (f : Fz ρ' a) : Fz ρ a := ⟨fun i z => f.1 i (s.sub _ _ z), by rw [← s.hd]; exact f.2⟩
mutual
theorem Rep.cut {S : Sy} {ρ ρ' : Own} {H : Hp} (s : Less ρ ρ') : ∀ {d : Val} {v : V}, d.und ρ.nm.length = true → Rep S ρ' H d v → Rep S ρ H d v
  | _, _, _, .non => .non
  | _, _, _, .bl b => .bl b
  | _, _, _, .int i => .int i
  | _, _, _, .str z => .str z
  | _, _, h, .tup q r => .tup q (Reps.cut s (by simpa only [Val.und] using h) r)
  | _, _, h, .lst f q r => .lst (s.fz f) q (Reps.cut s (by simpa only [Val.und] using h) r)
  | _, _, h, .dicK f q e1 e2 r => .dicK (s.fz f) q e1 e2 (Reps.cut s (by simpa only [Val.und] using h) r)
  | _, _, h, .dicT f q e1 e2 r e3 r2 => .dicT (s.fz f) q e1 e2 (toNK_reps rfl e2 r) e3 (Reps.cut s (by simpa only [Val.und] using h) r2)
  | _, _, h, .obj f q e1 e2 r => .obj (s.fz f) q e1 e2 (Reps.cut s (by simpa only [Val.und] using h) r)
  | _, _, h, .ref q => .ref (s.sub.cut (by simpa only [Val.und] using h) q)
  | _, _, h, .exn h1 h2 r => .exn h1 h2 (Rep.cut s (by simpa only [Val.und] using h) r)
  | _, _, h, .err f h1 h2 r => .err (s.fz f) h1 h2 (Rep.cut s (by simpa only [Val.und] using h) r)
theorem Reps.cut {S : Sy} {ρ ρ' : Own} {H : Hp} (s : Less ρ ρ') : ∀ {d : List Val} {v : List V}, undL ρ.nm.length d = true → Reps S ρ' H d v → Reps S ρ H d v
  | _, _, _, .nil => .nil
  | _, _, h, .cons r t => by
    simp only [undL, Bool.and_eq_true] at h
    exact .cons (Rep.cut s h.1 r) (Reps.cut s h.2 t)
end
theorem KvR.cut {S : Sy} {ρ ρ' : Own} {H : Hp} {κ : Type} {kd : κ → Val} (s : Less ρ ρ') : ∀ {d : List (Val × Val)} {v : List (κ × V)}, undKv ρ.nm.length d = true → KvR S ρ' H kd d v → KvR S ρ H kd d v
  | _, _, _, .nil => .nil
  | _, _, h, .cons r t => by
    simp only [undKv, Bool.and_eq_true] at h
    exact .cons (r.cut s h.1) (KvR.cut s h.2 t)
theorem KvN.cut {S : Sy} {ρ ρ' : Own} {H : Hp} (s : Less ρ ρ') : ∀ {d : List (Val × Val)} {v : List (NestedKey × Addr × V)}, undKv ρ.nm.length d = true → KvN S ρ' H d v → KvN S ρ H d v
  | _, _, _, .nil => .nil
  | _, _, h, .cons r e q t => by
    simp only [undKv, Bool.and_eq_true] at h
    exact .cons (toNK_rep rfl e r) e (q.cut s h.1) (KvN.cut s h.2 t)
theorem FsR.cut {S : Sy} {ρ ρ' : Own} {H : Hp} (s : Less ρ ρ') : ∀ {d : List (Nat × Val)} {v : List (Str × V)}, undFs ρ.nm.length d = true → FsR S ρ' H d v → FsR S ρ H d v
  | _, _, _, .nil => .nil
  | _, _, h, .cons r t => by
    simp only [undFs, Bool.and_eq_true] at h
    exact .cons (r.cut s h.1) (FsR.cut s h.2 t)
theorem ObR.cut {S : Sy} {ρ ρ' : Own} {H : Hp} (s : Less ρ ρ') {o : Ob} {a : Addr} (h : o.und ρ.nm.length = true) (r : ObR S ρ' H o a) : ObR S ρ H o a := by
  cases r with
  | lst h1 h2 => exact .lst h1 (h2.cut s h)
  | fro h1 => exact .fro h1
  | dcK h1 h2 => exact .dcK h1 (h2.cut s h)
  | dcT h1 h2 => exact .dcT h1 (h2.cut s h)
  | dcL h1 h2 => exact .dcL h1 (h2.cut s h)
  | dcM h1 h2 => exact .dcM h1 (h2.cut s h)
  | ins h1 h2 => exact .ins h1 (h2.cut s h)
theorem shut_at {n : Nat} : ∀ {k : Nat} {h g : Hea}, shut n k h = some g → g.length = k ∧ ∀ (i : Nat) (o : Ob), g[i]? = some o → h[i]? = some o ∧ o.und n = true
  | 0, h, g, e => by
    cases h <;> (cases e; exact ⟨rfl, fun i o q => by simp at q⟩)
  | k + 1, [], g, e => by cases e
  | k + 1, o :: h, g, e => by
    unfold shut at e
    split at e
    · rename_i hb
      cases q : shut n k h with
      | none => rw [q] at e; cases e
      | some g2 =>
        rw [q] at e
        cases e
        obtain ⟨l, z⟩ := shut_at q
        refine ⟨by simp [l], fun i o' e' => ?_⟩
        cases i with
        | zero => simp at e'; subst e'; exact ⟨rfl, hb⟩
        | succ i => simp at e' ⊢; exact z i o' e'
    · cases e
theorem Rel.cut {S : Sy} {ρ ρ' : Own} {H H' : Hp} {h h' g : Hea} (R : Rel S ρ h H) (s : Less ρ ρ') (R' : Rel S ρ' h' H') (e : shut h.length h.length h' = some g) : Rel S ρ g H' := by
  obtain ⟨l, z⟩ := shut_at e
  have hl := R.len
  refine ⟨by omega, R.inj, fun i o a e1 e2 => ?_, fun a m => ?_⟩
  · obtain ⟨e3, e4⟩ := z i o e1
    exact (R'.ob i o a e3 (s.sub _ _ e2)).cut s (by rw [← hl]; exact e4)
  · obtain ⟨h1, h2⟩ := R'.hid a (by rw [s.hd]; exact m)
    exact ⟨h1, fun i z => h2 i (s.sub _ _ z)⟩
def frz : Nat → Nat → Hea → Val → Option Val
  | _, _, _, .non => some .non
  | _, _, _, .bl b => some (.bl b)
  | _, _, _, .int i => some (.int i)
  | _, _, _, .str x => some (.str x)
  | 0, _, _, _ => none
  | f + 1, n, h, .tup xs => (mapO (frz f n h) xs).map .tup
  | f + 1, n, h, .lst xs => (mapO (frz f n h) xs).map .lst
  | f + 1, n, h, .dic t ks vs => (mapO (frz f n h) vs).map (.dic t ks)
  | f + 1, n, h, .obj c ns vs => (mapO (frz f n h) vs).map (.obj c ns)
  | f + 1, n, h, .exn c d => (frz f n h d).map (.exn c)
  | f + 1, n, h, .err c d => (frz f n h d).map (.err c)
  | f + 1, n, h, .ref i => if Nat.blt i n = true then some (.ref i) else match h[i]? with
    | some (.lst xs) => (mapO (frz f n h) xs).map .lst
    | some (.dcK kvs) => (mapO (frz f n h) (kvs.map (·.2))).map (.dic false (kvs.map (·.1)))
    | some (.dcT kvs) => (mapO (frz f n h) (kvs.map (·.2))).map (.dic true (kvs.map (·.1)))
    | some (.dcL kvs) => (mapO (frz f n h) (kvs.map (·.2))).map (.dic false (kvs.map (·.1)))
    | some (.dcM kvs) => (mapO (frz f n h) (kvs.map (·.2))).map (.dic true (kvs.map (·.1)))
    | some (.ins c fs) => (mapO (frz f n h) (fs.map (·.2))).map (.obj c (fs.map (·.1)))
    | _ => none
theorem KvR.split {S : Sy} {ρ : Own} {H : Hp} {κ : Type} {kd : κ → Val} : ∀ {d : List (Val × Val)} {v : List (κ × V)}, KvR S ρ H kd d v → d.map (·.1) = v.map (fun p => kd p.1) ∧ Reps S ρ H (d.map (·.2)) (v.map (·.2))
  | _, _, .nil => ⟨rfl, .nil⟩
  | _, _, .cons r t => ⟨by simp [t.split.1], .cons r t.split.2⟩
theorem FsR.split {S : Sy} {ρ : Own} {H : Hp} : ∀ {d : List (Nat × Val)} {v : List (Str × V)}, FsR S ρ H d v → v.map (·.1) = (d.map (·.1)).map S.nm ∧ Reps S ρ H (d.map (·.2)) (v.map (·.2))
  | _, _, .nil => ⟨rfl, .nil⟩
  | _, _, .cons r t => ⟨by simp [t.split.1], .cons r t.split.2⟩
section
variable {S : Sy} {ρ ρ' : Own} {H : Hp} {h : Hea}
theorem mapO_frz {n f : Nat} (ih : ∀ (d d' : Val) (v : V), Rep S ρ' H d v → frz f n h d = some d' → Rep S ρ H d' v) : ∀ (xs ys : List Val) (vs : List V), Reps S ρ' H xs vs → mapO (frz f n h) xs = some ys → Reps S ρ H ys vs
  | [], _, _, .nil, e => by cases e; exact .nil
  | x :: xs, _, _, .cons r t, e => by
    unfold mapO at e
    split at e
    · rename_i y ys h1 h2
      cases e
      exact .cons (ih _ _ _ r h1) (mapO_frz ih xs _ _ t h2)
    · cases e
theorem map_some {α β : Type} {o : Option α} {g : α → β} {b : β} (e : o.map g = some b) : ∃ a, o = some a ∧ b = g a := by
  cases o with
  | none => cases e
  | some a => cases e; exact ⟨a, rfl, rfl⟩
theorem frz_ok (s : Less ρ ρ') (R : Rel S ρ' h H) : ∀ (f : Nat) (d d' : Val) (v : V), Rep S ρ' H d v → frz f ρ.nm.length h d = some d' → Rep S ρ H d' v := by
  intro f
  induction f with
  | zero =>
    intro d d' v r e
    cases r <;> simp only [frz] at e <;> cases e <;> constructor
  | succ f ih =>
    intro d d' v r e
    cases r with
    | non => simp only [frz] at e; cases e; exact .non
    | bl b => simp only [frz] at e; cases e; exact .bl b
    | int b => simp only [frz] at e; cases e; exact .int b
    | str b => simp only [frz] at e; cases e; exact .str b
    | tup q t =>
      simp only [frz] at e
      obtain ⟨ys, e1, rfl⟩ := map_some e
      exact .tup q (mapO_frz ih _ _ _ t e1)
    | lst w q t =>
      simp only [frz] at e
      obtain ⟨ys, e1, rfl⟩ := map_some e
      exact .lst (s.fz w) q (mapO_frz ih _ _ _ t e1)
    | dicK w q e2 e3 t =>
      simp only [frz] at e
      obtain ⟨ys, e1, rfl⟩ := map_some e
      exact .dicK (s.fz w) q e2 e3 (mapO_frz ih _ _ _ t e1)
    | dicT w q e2 e3 t e4 t2 =>
      simp only [frz] at e
      obtain ⟨ys, e1, rfl⟩ := map_some e
      exact .dicT (s.fz w) q e2 e3 (toNK_reps rfl e3 t) e4 (mapO_frz ih _ _ _ t2 e1)
    | obj w q e2 e3 t =>
      simp only [frz] at e
      obtain ⟨ys, e1, rfl⟩ := map_some e
      exact .obj (s.fz w) q e2 e3 (mapO_frz ih _ _ _ t e1)
    | exn h1 h2 r =>
      simp only [frz] at e
      obtain ⟨y, e1, rfl⟩ := map_some e
      exact .exn h1 h2 (ih _ _ _ r e1)
    | err w h1 h2 r =>
      simp only [frz] at e
      obtain ⟨y, e1, rfl⟩ := map_some e
      exact .err (s.fz w) h1 h2 (ih _ _ _ r e1)
    | @ref i a ea =>
      simp only [frz] at e
      split at e
      · rename_i hb
        cases e
        exact .ref (s.sub.cut hb ea)
      · rename_i hb
        have fa : Fz ρ a := by
          refine ⟨fun j z => ?_, fun m => ?_⟩
          · have := R.inj j i a (s.sub _ _ z) ea
            subst this
            exact hb (Nat.ble_eq_true_of_le (List.getElem?_eq_some_iff.mp z).1)
          · exact (R.hid a (by rw [s.hd]; exact m)).2 i ea
        split at e
        · rename_i xs hx
          obtain ⟨ys, e1, rfl⟩ := map_some e
          have o := R.ob i _ a hx ea
          cases o with
          | lst h1 h2 => exact .lst fa h1 (mapO_frz ih _ _ _ h2 e1)
        · rename_i xs hx
          obtain ⟨ys, e1, rfl⟩ := map_some e
          have o := R.ob i _ a hx ea
          cases o with
          | dcK h1 h2 => exact .dicK fa (.inl h1) h2.split.1 rfl (mapO_frz ih _ _ _ h2.split.2 e1)
        · rename_i xs hx
          obtain ⟨ys, e1, rfl⟩ := map_some e
          have o := R.ob i _ a hx ea
          cases o with
          | dcT h1 h2 => exact .dicT fa (.inl h1) rfl h2.split.2.1 (toNK_reps rfl h2.split.2.1 h2.split.1) rfl (mapO_frz ih _ _ _ h2.split.2.2 e1)
        · rename_i xs hx
          obtain ⟨ys, e1, rfl⟩ := map_some e
          have o := R.ob i _ a hx ea
          cases o with
          | dcL h1 h2 => exact .dicK fa (.inr ⟨_, h1⟩) h2.split.1 rfl (mapO_frz ih _ _ _ h2.split.2 e1)
        · rename_i xs hx
          obtain ⟨ys, e1, rfl⟩ := map_some e
          have o := R.ob i _ a hx ea
          cases o with
          | dcM h1 h2 => exact .dicT fa (.inr ⟨_, h1⟩) rfl h2.split.2.1 (toNK_reps rfl h2.split.2.1 h2.split.1) rfl (mapO_frz ih _ _ _ h2.split.2.2 e1)
        · rename_i c fs hx
          obtain ⟨ys, e1, rfl⟩ := map_some e
          have o := R.ob i _ a hx ea
          cases o with
          | ins h1 h2 => exact .obj fa h1 h2.split.1 rfl (mapO_frz ih _ _ _ h2.split.2 e1)
        · cases e
end
/-- the end of a call: garbage is dropped, what is given back is changed no more -/
def fin (h : Hea) (d : Val) (h' : Hea) : Res Val := if h'.length = h.length then .ok d h' else match shut h.length h.length h' with
  | none => .ok d h'
  | some g => match frz 40 h.length h' d with
    | some d' => .ok d' g
    | none => .ok d h'
/-- the end of a call that gives back a new thing to be changed -/
def finK (h : Hea) (d : Val) (h' : Hea) : Res Val := if h'.length = h.length then .ok d h' else match shut h.length h.length h' with
  | none => .ok d h'
  | some g => match d with
    | .ref i => match h'[i]? with
      | some o => if o.und h.length = true ∧ h.length ≤ i then .ok (.ref h.length) (g ++ [o]) else .ok d h'
      | _ => .ok d h'
    | _ => .ok d h'
def FinOk (fn : Hea → Val → Hea → Res Val) : Prop := ∀ (S : Sy) (ρ : Own) (H : Hp) (h h' : Hea) (d : Val) (Q : VK) (W : XK), Rel S ρ h H → Aft S ρ H (fn h d h') Q W → Aft S ρ H (.ok d h') Q W
theorem Go.less {S : Sy} {ρ ρ1 : Own} {H H1 : Hp} (s : Go S ρ H ρ1 H1) : Less ρ ρ1 := ⟨s.sub, s.hd⟩
theorem Go.drop {S : Sy} {ρ ρ1 : Own} {H H1 : Hp} (s : Go S ρ H ρ1 H1) : Go S ρ H ρ H1 := ⟨.rfl, s.kp, s.fr, fun i _ z => .inl ⟨i, z⟩, Eq.refl _⟩
theorem fin_ok : FinOk fin := by
  intro S ρ H h h' d Q W R a
  unfold fin at a
  have hl := R.len
  split at a
  · exact a
  · split at a
    · exact a
    · rename_i g hg
      split at a
      · rename_i d' hd
        intro ρ1 v H1 s R1 r
        exact a ρ v H1 s.drop (R.cut s.less R1 hg) (frz_ok s.less R1 _ _ _ _ r (by rw [← hl]; exact hd))
      · exact a
section
variable {S : Sy} {ρ ρ' : Own} {H : Hp} {i : Nat} {p : Addr}
theorem Less.fzA (s : Less ρ ρ') (ep : ρ'.nm[i]? = some p) {a : Addr} (f : Fz ρ' a) : Fz (ρ.add p) a := (s.fz f).add fun z => f.1 i (by rw [z]; exact ep)
mutual
theorem Rep.toAdd (s : Less ρ ρ') (ep : ρ'.nm[i]? = some p) : ∀ {d : Val} {v : V}, d.und ρ.nm.length = true → Rep S ρ' H d v → Rep S (ρ.add p) H d v
  | _, _, _, .non => .non
  | _, _, _, .bl b => .bl b
  | _, _, _, .int i => .int i
  | _, _, _, .str z => .str z
  | _, _, h, .tup q r => .tup q (Reps.toAdd s ep (by simpa only [Val.und] using h) r)
  | _, _, h, .lst f q r => .lst (s.fzA ep f) q (Reps.toAdd s ep (by simpa only [Val.und] using h) r)
  | _, _, h, .dicK f q e1 e2 r => .dicK (s.fzA ep f) q e1 e2 (Reps.toAdd s ep (by simpa only [Val.und] using h) r)
  | _, _, h, .dicT f q e1 e2 r e3 r2 => .dicT (s.fzA ep f) q e1 e2 (toNK_reps rfl e2 r) e3 (Reps.toAdd s ep (by simpa only [Val.und] using h) r2)
  | _, _, h, .obj f q e1 e2 r => .obj (s.fzA ep f) q e1 e2 (Reps.toAdd s ep (by simpa only [Val.und] using h) r)
  | _, _, h, .ref q => .ref (Sub.app _ _ (s.sub.cut (by simpa only [Val.und] using h) q))
  | _, _, h, .exn h1 h2 r => .exn h1 h2 (Rep.toAdd s ep (by simpa only [Val.und] using h) r)
  | _, _, h, .err f h1 h2 r => .err (s.fzA ep f) h1 h2 (Rep.toAdd s ep (by simpa only [Val.und] using h) r)
theorem Reps.toAdd (s : Less ρ ρ') (ep : ρ'.nm[i]? = some p) : ∀ {d : List Val} {v : List V}, undL ρ.nm.length d = true → Reps S ρ' H d v → Reps S (ρ.add p) H d v
  | _, _, _, .nil => .nil
  | _, _, h, .cons r t => by
    simp only [undL, Bool.and_eq_true] at h
    exact .cons (Rep.toAdd s ep h.1 r) (Reps.toAdd s ep h.2 t)
end
theorem KvR.toAdd {κ : Type} {kd : κ → Val} (s : Less ρ ρ') (ep : ρ'.nm[i]? = some p) : ∀ {d : List (Val × Val)} {v : List (κ × V)}, undKv ρ.nm.length d = true → KvR S ρ' H kd d v → KvR S (ρ.add p) H kd d v
  | _, _, _, .nil => .nil
  | _, _, h, .cons r t => by
    simp only [undKv, Bool.and_eq_true] at h
    exact .cons (r.toAdd s ep h.1) (KvR.toAdd s ep h.2 t)
theorem KvN.toAdd (s : Less ρ ρ') (ep : ρ'.nm[i]? = some p) : ∀ {d : List (Val × Val)} {v : List (NestedKey × Addr × V)}, undKv ρ.nm.length d = true → KvN S ρ' H d v → KvN S (ρ.add p) H d v
  | _, _, _, .nil => .nil
  | _, _, h, .cons r e q t => by
    simp only [undKv, Bool.and_eq_true] at h
    exact .cons (toNK_rep rfl e r) e (q.toAdd s ep h.1) (KvN.toAdd s ep h.2 t)
theorem FsR.toAdd (s : Less ρ ρ') (ep : ρ'.nm[i]? = some p) : ∀ {d : List (Nat × Val)} {v : List (Str × V)}, undFs ρ.nm.length d = true → FsR S ρ' H d v → FsR S (ρ.add p) H d v
  | _, _, _, .nil => .nil
  | _, _, h, .cons r t => by
    simp only [undFs, Bool.and_eq_true] at h
    exact .cons (r.toAdd s ep h.1) (FsR.toAdd s ep h.2 t)
theorem ObR.toAdd (s : Less ρ ρ') (ep : ρ'.nm[i]? = some p) {o : Ob} {a : Addr} (h : o.und ρ.nm.length = true) (r : ObR S ρ' H o a) : ObR S (ρ.add p) H o a := by
  cases r with
  | lst h1 h2 => exact .lst h1 (h2.toAdd s ep h)
  | fro h1 => exact .fro h1
  | dcK h1 h2 => exact .dcK h1 (h2.toAdd s ep h)
  | dcT h1 h2 => exact .dcT h1 (h2.toAdd s ep h)
  | dcL h1 h2 => exact .dcL h1 (h2.toAdd s ep h)
  | dcM h1 h2 => exact .dcM h1 (h2.toAdd s ep h)
  | ins h1 h2 => exact .ins h1 (h2.toAdd s ep h)
end
theorem finK_ok : FinOk finK := by
  intro S ρ H h h' d Q W R a
  unfold finK at a
  have hl := R.len
  split at a
  · exact a
  · split at a
    · exact a
    · rename_i g hg
      split at a
      · rename_i i
        split at a
        · rename_i o ho
          split at a
          · rename_i hu
            intro ρ1 v H1 s R1 r
            obtain ⟨p, rfl, ep⟩ := r.ref_
            have off : Off ρ p := fun j z => by
              have := R1.inj j i p (s.sub _ _ z) ep
              subst this
              have := (List.getElem?_eq_some_iff.mp z).1
              omega
            have hp : H p = none := by
              rcases s.nw i p ep with ⟨j, z⟩ | z
              · exact (off j z).elim
              · exact z
            have ob := R1.ob i _ p ho ep
            have Rb := R.cut s.less R1 hg
            have hnh : p ∉ ρ.hd := (R.fz hp).2
            -- nothing else stands for p
            have lm : ∀ {o : Ob} {a : Addr}, o.und ρ.nm.length = true → ObR S ρ1 H1 o a → ObR S (ρ.add p) H1 o a := by
              intro o a hu r
              exact ObR.toAdd s.less ep hu r
            exact a (ρ.add p) _ H1 (s.drop.adopt hp) (Rel.grow Rb.len Rb.inj off (fun j o' b e1 e2 => by
              obtain ⟨e3, e4⟩ := (shut_at hg).2 j o' e1
              exact lm (by rw [← hl]; exact e4) (R1.ob j o' b e3 (s.sub _ _ e2))) (lm (by rw [← hl]; exact hu.1) ob) Rb.hid hnh) (.ref (by rw [hl]; exact add_at))
          · exact a
        · exact a
      · exact a
def startE (n : Nat) (ds : List Val) : En := ds.map some ++ List.replicate (n - ds.length) none
def runG (fn : Hea → Val → Hea → Res Val) (np ns : Nat) (body : En → Hea → SRes) (ds : List Val) (h : Hea) : Res Val := if ds.length = np then
    (match body (startE ns ds) h with
      | .rt d h' => fn h d h'
      | .nx _ h' => fn h .non h'
      | .exc c d _ h' => if h'.length = h.length then .exc c d h' else (match shut h.length h.length h' with
        | some g => (match frz 40 h.length h' d with
          | some d' => .exc c d' g
          | none => .exc c d h')
        | none => .exc c d h')
      | _ => .stuck)
  else .stuck
abbrev runB := runG fin
abbrev runK := runG finK
def spEv (S : Sy) (cf : List Val → Hea → Res Val) : Sp := fun vs H Q E => ∃ ρ h ds, Rel S ρ h H ∧ Reps S ρ H ds vs ∧ Aft S ρ H (cf ds h) Q E
theorem ER.start {S : Sy} {ρ : Own} {H : Hp} {n : Nat} : ∀ {ds : List Val} {vs : List V}, Reps S ρ H ds vs → ER S ρ H (ds.map some ++ List.replicate n none) (vs.map some ++ List.replicate n none)
  | _, _, .nil => by
    induction n with
    | zero => exact .nil
    | succ n ih => exact .cons (fun x e => nomatch e) ih
  | _, _, .cons r t => .cons (fun x e => ⟨_, rfl, by cases e; exact r⟩) (ER.start t)
theorem runB_ok {S : Sy} {fn : Hea → Val → Hea → Res Val} (fo : FinOk fn) {np : Nat} {N : List Str} {fb : En → Hea → SRes} {vs : List V} {H : Hp} {Q : VK} {E : XK} (q : spEv S (runG fn np N.length fb) vs H Q E) :
    vs.length = np ∧ tS S (fun c d _ H' => E c d H') fb { nx := fun _ H' => Q .non H', rt := Q } (L2.start N vs) H := by
  obtain ⟨ρ, h, ds, R, r, a⟩ := q
  unfold runG at a
  split at a
  · rename_i hl
    refine ⟨by rw [← r.length]; exact hl, ρ, startE N.length ds, h, R, ?_, ?_⟩
    · unfold startE L2.start
      rw [← r.length]
      exact ER.start r
    · revert a
      cases fb (startE N.length ds) h with
      | nx e h' => exact fun a ρ1 σ1 H1 s R1 E1 => fo _ _ _ _ _ _ _ _ R a ρ1 .non H1 s R1 .non
      | rt d h' => exact fun a ρ1 v H1 s R1 r1 => fo _ _ _ _ _ _ _ _ R a ρ1 v H1 s R1 r1
      | bk e h' => exact fun a => a.elim
      | ct e h' => exact fun a => a.elim
      | stuck => exact fun a => a
      | exc c d e h' =>
        intro a ρ1 v σ1 H1 dx s R1 r1 E1 x
        dsimp only at a
        split at a
        · exact a ρ1 v H1 dx s R1 r1 x
        · split at a
          · rename_i g hg
            split at a
            · rename_i d' hd
              exact a ρ v H1 dx s.drop (R.cut s.less R1 hg) (frz_ok s.less R1 _ _ _ _ r1 (by rw [← R.len]; exact hd)) x
            · exact a ρ1 v H1 dx s R1 r1 x
          · exact a ρ1 v H1 dx s R1 r1 x
  · exact a.elim
/-- a def keeps its promise -/
theorem fn_ok {P : Program} {w : World} {K : PySem.W.Frag} {mg : Str → Option Value} {base : Heap} {T : Tb} {x qual : Str} {st : Stmt} {f : Addr} {fd : FuncData} {N ps : List Str} {k : Nat} {fb : En → Hea → SRes}
    {fn : Hea → Val → Hea → Res Val} (fo : FinOk fn) (F : Fun K x qual st f fd) (Sc : FnScope N ps (defScope st))
    (hb : ∀ (cdv : Value) (A : Around) (outer : List Env) (s : Shared) (H : Hp) (E : XK), Room k (A.deeper (PyProof.Rows.envOfC qual (defScope st) s.heap.objs.size f cdv)) →
      SSs T (cxOf (L2.CX P w) P w K mg base N qual (defScope st) f cdv A outer s H E) (fun c d _ H' => E c d H') (defBody st) fb) :
    FnOk P w K mg base (L2.CX P w) (k + 1) f fd ps (spEv ⟨K, T.ca, T.nm, T.fld, P, w, T.ex⟩ (runG fn ps.length N.length fb)) :=
  F.okX Sc (fun vs H Q E q => (runB_ok fo q).1) fun cdv A outer s H vs Q E hr q => ⟨_, hb cdv A outer s H E hr, (runB_ok fo q).2⟩
def eCall (cf : List Val → Hea → Res Val) (g : En → Hea → Res (List Val)) : En → Hea → Res Val := fun e h => (g e h).bind cf
section
variable {T : Tb} {X : Cx} {W : WX} {x : Str} {f : Addr} {fd : FuncData} {ps : List Str} {k : Nat} {cf : List Val → Hea → Res Val} {e : Expr} {es : List Expr} {g : En → Hea → Res (List Val)} {p pos : Pos}
theorem se_call (F : FnOk X.prog X.w X.K X.mg X.base (L2.CX X.prog X.w) k f fd ps (spEv (sy T X) cf)) (hr : Room k X.A) (hg : Gl X x) (hm : X.mg x = some (.ref f)) (hk : PySem.W.keepIn X.K (.ref f) = true) (hb : Binds X.K fd ps []) (tk : Takes X W)
    (ha : SA T X W (e :: es) g) (hdb : (x == ("__debug__" : Str)) = false := by decide) (he : starEach (e :: es) X.env = (false, eval e X.env) :: starEach es X.env := by rfl) (hpl : (backTo pos (starEach es X.env)).any (·.1) = false := by rfl) :
    SE T X W (.Call (.Name x p) (e :: es) [] pos) (eCall cf g) :=
  (pe_callS (E := fun σ => WE W σ) F hr hg hm hk hb (fun σ => passAt tk σ) ha hdb he hpl).imp fun σ H Q q => by
    obtain ⟨ρ, e, h, R, E, a⟩ := q
    exact ⟨ρ, e, h, R, E, (AftA.bind a).mono fun vs H1 ⟨ρ1, ds, h1, s, R1, r1, a1⟩ => ⟨ρ1, h1, ds, R1, r1, a1⟩⟩
end
end Lad
end
section
set_option maxRecDepth 100000
set_option maxHeartbeats 1000000
namespace Lad
open PySem L2
/-- a built-in class by its name -/
theorem ty_of {X : Cx} {x : Str} {n : String} {pos : Pos} (hm : X.mg x = none) (hv : bootBuiltins x = some (.type n)) (hg : Gl X x := by rfl) (hn : x ≠ "__name__" := by decide) (hd : (x == ("__debug__" : Str)) = false := by decide) : PE X (.Name x pos) (tC (.ty n)) := pe_bltn hg hm hv rfl hn hd
section
variable {T : Tb} {X : Cx} {W : WX} {x : Str} {id : String} {n : String} {a e : Expr} {es : List Expr} {f : En → Hea → Res Val} {g : En → Hea → Res (List Val)} {p pos : Pos}
/-- a built-in def of plain arguments -/
theorem se_cb {r : Hea → List Val → Option Val} (hc : CallR X (.builtin id) (rC (sy T X) r)) (hm : X.mg x = none) (hv : bootBuiltins x = some (.builtin id)) (ha : SA T X W (e :: es) g) (hg : Gl X x := by rfl) (hn : x ≠ "__name__" := by decide) (hdb : (x == ("__debug__" : Str)) = false := by decide)
    (he : starEach (e :: es) X.env = (false, eval e X.env) :: starEach es X.env := by rfl) (hpl : (backTo pos (starEach es X.env)).any (·.1) = false := by rfl) : SE T X W (.Call (.Name x p) (e :: es) [] pos) (eCB r g) :=
  (pe_callB hc hg hm hv ha hn hdb he hpl).imp fun σ H Q q => cb_imp q
theorem se_ct {r : Hea → List Val → Option Val} (hc : CallR X (.type n) (rC (sy T X) r)) (hm : X.mg x = none) (hv : bootBuiltins x = some (.type n)) (ha : SA T X W (e :: es) g) (hg : Gl X x := by rfl) (hn : x ≠ "__name__" := by decide) (hdb : (x == ("__debug__" : Str)) = false := by decide)
    (he : starEach (e :: es) X.env = (false, eval e X.env) :: starEach es X.env := by rfl) (hpl : (backTo pos (starEach es X.env)).any (·.1) = false := by rfl) : SE T X W (.Call (.Name x p) (e :: es) [] pos) (eCB r g) :=
  (pe_callTy hc hg hm hv ha hn hdb he hpl).imp fun σ H Q q => cb_imp q
/-- of a list or tuple that is a value; of a list made for it -/
theorem se_it {r : List Val → Option Val} (hc : CallR X (.builtin id) (rIt (sy T X) r)) (hm : X.mg x = none) (hv : bootBuiltins x = some (.builtin id)) (ha : SE T X W a f) (hg : Gl X x := by rfl) (hn : x ≠ "__name__" := by decide) (hdb : (x == ("__debug__" : Str)) = false := by decide)
    (he : starEach [a] X.env = (false, eval a X.env) :: starEach [] X.env := by rfl) : SE T X W (.Call (.Name x p) [a] [] pos) (eIt r f) :=
  (pe_callB hc hg hm hv (pa_cons ha pa_nil he) hn hdb he rfl).imp fun σ H Q q => it_imp q
theorem se_ilL {r : List Val → Option Val} (hc : CallR X (.builtin id) (rIl (sy T X) r)) (hm : X.mg x = none) (hv : bootBuiltins x = some (.builtin id)) (ha : SL T X W a g) (hg : Gl X x := by rfl) (hn : x ≠ "__name__" := by decide) (hdb : (x == ("__debug__" : Str)) = false := by decide)
    (he : starEach [a] X.env = (false, eval a X.env) :: starEach [] X.env := by rfl) : SE T X W (.Call (.Name x p) [a] [] pos) (eItL r g) :=
  (pe_callB hc hg hm hv (pa_cons ha pa_nil he) hn hdb he rfl).imp fun σ H Q q => ilL_imp q
end
end Lad
end
section
set_option maxRecDepth 100000
set_option maxHeartbeats 2000000
namespace Lad
open PySem PySem.W PySem.Calls PySem.HandSPX
structure MkFacts (nwId inId : String) (tl : List Value) : Prop where
  nw : ∃ Bn inN bmN, ExcBaseFacts Bn nwId inN bmN ∧ tl.contains (.type Bn) = true
  na : tl.contains (.type "AttributeError") = false
  nn : tl.contains (.type "NameError") = false
  ik : builtinKind inId = some .slot
  ir : ∃ B, Manifest.signature? inId = some ⟨.positional, "*", B, .self, [⟨"args", .varPos, false⟩]⟩ ∧ (B != "*") = true
  ip : plainId inId = true
  ie : entryFor table inId = some Builtin.«BaseException.__init__»
theorem MkFacts.of {B nwId inId : String} {tl : List Value} (F : ExcBaseFacts B nwId inId tl) : MkFacts nwId inId tl :=
  ⟨⟨B, inId, tl, F, F.hasB⟩, F.noAttr, F.noName, F.initKind, ⟨B, F.initRow, F.noStar⟩, F.init.plain, F.initEntry⟩
section
variable {prog : Program} {w : World} {A : Around} {E : Value → Shared → Prop} {R : Result → Shared → Prop} {hp : Heap} {g : Array GenState} {dr : Drawn} {tk : Nat} {os : OsState}
variable {nm qn : Str} {C N : Addr} {bs bm bmN : List Value} {hdct : Bool} {sn : List Str} {sub : List Value} {ab : Bool} {col : Option Bool} {dd : Option Addr} {k0 k1 k2 k3 k5 : Option Value} {Bn nwId inN : String}
/-- the class C stands at C; what it stands under -/
abbrev ClsO (hp : Heap) (nm qn : Str) (C N : Addr) (bs bm : List Value) (hdct : Bool) (sn : List Str) (sub : List Value) (ab : Bool) (col : Option Bool) (dd : Option Addr) (k0 k1 k2 k3 k5 : Option Value) (nwId : String) : Prop := hp.get? C = some (excClassObj nm qn C N bs bm hdct sn sub ab col dd k0 k1 k2 k3 k5 nwId)
theorem under {M : Model} {T : String} {b : Bool} {Q : Bool → Shared → Prop} (oC : ClsO hp nm qn C N bs bm hdct sn sub ab col dd k0 k1 k2 k3 k5 nwId) (c : bm.contains (.type T) = b) (q : Q b ⟨hp, g, dr, tk, os⟩) : wpAny M A (isSubtype (.ref C) (.type T)) Q E ⟨hp, g, dr, tk, os⟩ := by
  refine wpAny_isSubtype_exc oC ?_
  rw [List.contains_cons, c]
  exact q
theorem made_new (F : ExcBaseFacts Bn nwId inN bmN) (hB : bm.contains (.type Bn) = true) (nA : bm.contains (.type "AttributeError") = false) (nN : bm.contains (.type "NameError") = false) {us : List Value} (oC : ClsO hp nm qn C N bs bm hdct sn sub ab col dd k0 k1 k2 k3 k5 nwId)
    (q : R (.ok (.ret (.ref (hp.objs.size + 1)))) ⟨(hp.push (kdv_tup us)).push (excO C hp.objs.size), g, dr, tk, os⟩) (hz : us.length ≤ sizeLine) : codeAny (model prog w) A (.builtin nwId ⟨.ref C :: us, []⟩) R ⟨hp, g, dr, tk, os⟩ := by
  have z := F.ends
  refine codeAny_builtinAt F.entry (wpAt_bind ?_)
  refine wpAt_bind (wpAt_stack fun _ _ => wpAt_of_wpAny ?_)
  wp_walk
  refine wpAt_of_wpAny ?_
  rw [F.owner]
  wp_walk using wpAny_madeHere_exc F.canon oC, wpAny_loadPart_at oC, under oC hB, under oC nA, under oC nN
  all_goals (show R _ _; rw [Heap.size_push]; exact q)
theorem made_type (F : ExcBaseFacts Bn nwId inN bmN) (hB : bm.contains (.type Bn) = true) (nA : bm.contains (.type "AttributeError") = false) (nN : bm.contains (.type "NameError") = false) {us : List Value} {fI : Addr} {Q : Fin → Shared → Prop} (oC : ClsO hp nm qn C N bs bm hdct sn sub ab col dd k0 k1 k2 k3 k5 nwId)
    (li : Looks (model prog w) hp (typeLookup (.ref C) "__init__") (some (.ref fI))) (lb : ∀ self, Looks (model prog w) hp (bindSpecial (.ref fI) self) (.ref fI, [self])) (hz : us.length ≤ sizeLine)
    (q : codeAny (model prog w) A (.call (.ref fI) ⟨.ref (hp.objs.size + 1) :: us, []⟩) (fun r s' => match r with | .ok (.ret v) => v = .none ∧ Q (.done (.ret (.ref (hp.objs.size + 1)))) s' | .ok _ => False | .error e => E e s') ⟨(hp.push (kdv_tup us)).push (excO C hp.objs.size), g, dr, tk, os⟩) :
    wpAny (model prog w) A (Builtin.«type.__call__» ⟨.ref C :: us, []⟩) Q E ⟨hp, g, dr, tk, os⟩ := by
  wp_walk using wpAny_loadPart_at oC, wpAny_madeBy_exc oC
  refine codeAny_call_builtin_code (Code.quiet_builtin _ F.quiet) ?_
  have z := F.noStar
  simp only [checkBuiltinCall, F.newKind, F.newSplit, F.newRow]
  wp_walk using wpAny_loadPart_at oC, under oC hB, wpAny_staticBase_exc oC, wpAny_madeBy_exc oC
  refine made_new F hB nA nN oC ?_ hz
  have kp : ∀ b o, hp.get? b = some o → ((hp.push (kdv_tup us)).push (excO C hp.objs.size)).get? b = some o := fun b o e => Heap.get?_push_of_some _ (Heap.get?_push_of_some _ e)
  have oE : ((hp.push (kdv_tup us)).push (excO C hp.objs.size)).get? (hp.objs.size + 1) = some (excO C hp.objs.size) := by heap_get
  have self : ∀ {Q : Bool → Shared → Prop}, Q true ⟨(hp.push (kdv_tup us)).push (excO C hp.objs.size), g, dr, tk, os⟩ → wpAny (model prog w) A (isSubtype (.ref C) (.ref C)) Q E ⟨(hp.push (kdv_tup us)).push (excO C hp.objs.size), g, dr, tk, os⟩ := fun h => wpAny_isSubtype_exc (kp _ _ oC) (by
    rw [show (Value.ref C :: bm).contains (.ref C) = true by simp]; exact h)
  show wpAny _ _ _ _ _ _
  wp_walk using wpAny_loadPart_at oE, self
  refine (li.keeps kp).at (wpAny_holding (wpAny_bind (((lb _).keeps kp).at (wpAny_bind (wpAny_call (codeAny_mono q ?_))))))
  rintro (e | (v | _ | _ | _)) s' h
  · exact h
  · exact h.elim
  · exact h.elim
  · exact h.elim
  · obtain ⟨rfl, h⟩ := h
    wp_walk
    exact h
theorem made_call (F : ExcBaseFacts Bn nwId inN bmN) (hB : bm.contains (.type Bn) = true) (nA : bm.contains (.type "AttributeError") = false) (nN : bm.contains (.type "NameError") = false) {us : List Value} {fI : Addr} (oC : ClsO hp nm qn C N bs bm hdct sn sub ab col dd k0 k1 k2 k3 k5 nwId)
    (li : Looks (model prog w) hp (typeLookup (.ref C) "__init__") (some (.ref fI))) (lb : ∀ self, Looks (model prog w) hp (bindSpecial (.ref fI) self) (.ref fI, [self])) (hz : us.length ≤ sizeLine)
    (q : codeAny (model prog w) (A.under (.builtin "type.__call__" ⟨.ref C :: us, []⟩)) (.call (.ref fI) ⟨.ref (hp.objs.size + 1) :: us, []⟩) (InitBack (hp.objs.size + 1) R) ⟨(hp.push (kdv_tup us)).push (excO C hp.objs.size), g, dr, tk, os⟩) :
    codeAny (model prog w) A (.call (.ref C) ⟨us, []⟩) R ⟨hp, g, dr, tk, os⟩ := by
  have f1 := tc_lookup
  have f2 := tc_bind (.ref C)
  have ty : (⟨hp, g, dr, tk, os⟩ : Shared).TypeIs (.ref C) "type" := ⟨_, oC, rfl⟩
  refine codeAny_of_tree ?_
  show wpAny _ _ (callAny (.ref C) _) _ _ _
  wp_walk using wpAny_loadPart_at oC
  refine ⟨rfl, codeAny_call_builtin_at (Code.quiet_builtin _ (by decide +kernel)) entry_typeCall (wpAny_check_type_call_sub oC (made_type F hB nA nN oC li lb hz (codeAny_mono q ?_)))⟩
  rintro (e | (v | _ | _ | _)) s' h <;> exact h
/-- the bound __init__ of a base, called on a new error -/
theorem init_call {inId : String} {tl : List Value} (FB : MkFacts nwId inId tl) {u x t : Addr} {us : List Value} {Q : Value → Shared → Prop} (oC : ClsO hp nm qn C N bs bm hdct sn sub ab col dd k0 k1 k2 k3 k5 nwId) (ou : hp.get? u = some (kxs_mw inId x)) (ox : hp.get? x = some (excObj C t none .none)) (hz : us.length ≤ sizeLine)
    (q : ∀ h', (∀ b o, b ≠ x → hp.get? b = some o → h'.get? b = some o) → h'.get? x = some (excObj C hp.objs.size none .none) → Q .none ⟨h', g, dr, tk, os⟩) : wpAny (model prog w) A (call (.ref u) us) Q E ⟨hp, g, dr, tk, os⟩ := by
  obtain ⟨B, ir, ib⟩ := FB.ir
  have k := FB.ik
  refine wpAny_call (codeAny_of_tree ?_)
  show wpAny _ A.in1 (callAny (.ref u) ⟨us, []⟩) _ _ _
  simp only [callAny]
  wp_walk
  simp only [ir, k]
  wp_walk
  refine wpAny_onRaise (wpAny_of_eq (check_star_args _ _ _ _ _ _) ?_)
  wp_walk
  refine ⟨plainId_quiet FB.ip _, codeAny_builtin FB.ie ?_⟩
  exact exc_init_tree (cls := .ref C) (t0 := t) (dv := none) (c2 := .none) (c3 := .none) (b4 := .bool false) ox hz fun h' k e _ => q h' k e
end
abbrev keBase : List Value := [.type "KeyError", .type "LookupError", .type "Exception", .type "BaseException", .type "object"]
theorem mk_KeyError : MkFacts "LookupError.__new__" "KeyError.__init__" keBase where
  nw := ⟨_, _, _, PySem.F.excBase_LookupError, by decide +kernel⟩
  na := by decide +kernel
  nn := by decide +kernel
  ik := by kernel_rfl
  ir := ⟨"KeyError", by kernel_rfl, by decide +kernel⟩
  ip := by decide +kernel
  ie := entryFor_alias (id' := "BaseException.__init__") (by rw [fastTable_eq_tree]; kernel_rfl) rfl (by decide +kernel) (by rw [fastTable_eq_tree]; kernel_rfl)
theorem kxs_KeyError : KxsFacts "KeyError" "KeyError.__init__" := ⟨by show builtinType _ = _; rw [builtinType_eq_fast]; kernel_rfl, by kernel_rfl⟩
theorem store_KeyError : StoreFacts "KeyError" keBase "object.__setattr__" "object" where
  mro := by kernel_rfl
  slot := .of (owner := "object") (n := "__setattr__") (by rw [typeLookup_type, builtinLookup_eq_fast]; kernel_rfl) (by decide +kernel) (by decide +kernel) (by decide +kernel) (.inl (by decide +kernel)) (by rw [isSubtype_type]; kernel_rfl)
  entry := PySem.F.store_LookupError.entry
  kind := PySem.F.store_LookupError.kind
  split := PySem.F.store_LookupError.split
  hasOwner := by decide +kernel
  args := PySem.F.store_LookupError.args
  passes := fun self => by kernel_rfl
end Lad
end
section
set_option maxRecDepth 100000
set_option maxHeartbeats 2000000
namespace Lad
open PySem PySem.W PySem.Calls PyProof.Rows PySem.HandSPX
open L2 (defArgs defBody defScope)
def exB (txt fld : Str) (j : Nat) (a1 a2 a3 a4 a5 a6 b1 b2 b3 b4 : Pos) : List Stmt :=
  [.Expr (.Call (.Attribute (.Call (.Name "super" a1) [] [] a2) "__init__" a3) [.Constant (.str txt) j a4] [] a5) a6, .Assign [.Attribute (.Name "self" b1) fld b2] (.Name fld b3) b4]
structure InitOk (st : Stmt) (fld : Str) : Prop where
  body : ∃ txt j a1 a2 a3 a4 a5 a6 b1 b2 b3 b4, defBody st = exB txt fld j a1 a2 a3 a4 a5 a6 b1 b2 b3 b4 ∧ ∀ env : Env, ∃ pl : Sem Bool,
    eval (.Call (.Attribute (.Call (.Name "super" a1) [] [] a2) "__init__" a3) [.Constant (.str txt) j a4] [] a5) env = (do
      let ov ← attributeBase (.Call (.Name "super" a1) [] [] a2) "__init__" env (eval (.Call (.Name "super" a1) [] [] a2) env)
      standAt a3.atName
      let (f, first) ← holding [ov] (getMethod ov "__init__" pl)
      callWith a5 f first (backTo a5 (starEach [.Constant (.str txt) j a4] env)) [])
  par : ∃ an p, ((defArgs st).posonlyargs ++ (defArgs st).args).head? = some { arg := "self", annotation := an, pos := p }
  cell : ∀ x ∈ (defScope st).names, x.2 ≠ .cell
  co : (defScope st).isCoroutine = false
  gen : (defScope st).isGenerator = false
  kind : (defScope st).kind = .function
  ls : (defScope st).names.lookup ("self" : Str) = some .local
  lf : (defScope st).names.lookup fld = some .local
  lsu : (defScope st).names.lookup ("super" : Str) = some .globalImplicit
  lc : (defScope st).names.lookup ("__class__" : Str) = some .free
  ne : fld ≠ "self"
  nd : (fld == ("__debug__" : Str)) = false
/-- what the written part says of the class at C (its __init__ at fI, the cell of its class at cc, its code at cda) -/
structure ExTxt (P : Program) (K : Frag) (st : Stmt) (C fI cc cda : Addr) (fd : FuncData) (B newId initId : String) (bmB : List Value) (fld : Str) : Prop where
  kxs : KxsFacts B initId
  eb : MkFacts newId initId bmB
  sf : StoreFacts B bmB "object.__setattr__" "object"
  ini : InitOk st fld
  ei : excInitIn K C bmB newId = true
  ov : excOver K C bmB = true
  sa : findIn K (.ref C) "__setattr__" = some (some (.builtin "object.__setattr__"))
  tkr : takerIn K C fld = some none
  iC : findIn K (.ref C) "__init__" = some (some (.ref fI))
  tC : typeIn K (.ref fI) = some (.type "function")
  kC : keepIn K (.ref C) = true
  exC : subIn K (.ref C) (.type "BaseException") = some true
  exB : subIn K (.ref C) (.type B) = some true
  tyC : typeIn K (.ref C) = some (.type "type")
  hdC : hasDictIn K C = true
  mro : mroIn K C (.ref C) = some true
  sup : nsIn K mainGlobals "super" = some none
  opq : nsIn K cStatics "thirdparty.any" = some none
  alo : ks_superIn K C C "__init__" = some (some (.builtin initId))
  fn : ∃ (qual : Str) (oc dV kV doc pm ct : Value) (od an : Option Addr) (osl : Array (Option Value)), fd = ksFn "__init__" qual (defArgs st) (defBody st) (defScope st) dV kV doc pm an (.ref cda) ct cc ∧ K.lookup fI = some ⟨oc, od, .func fd, osl⟩ ∧ codeIn K (.ref cda) qual = true
  bnd : ∀ (s : Shared) (x : Addr) (v : Value), BindsTo s fd ⟨[.ref x, v], []⟩ [("self", .ref x), (fld, v)]
  code : ∃ (ccl : Value) (cdd : Option Addr) (vs : Array Value) (ccs : Array (Option Value)) (file : Str) (tf : Tok), K.lookup cda = some ⟨ccl, cdd, .fields vs, ccs⟩ ∧ vs[2]? = some (.str file tf) ∧ ((P.main.file : Str) == file) = true
  clc : ∃ (cl : Value) (cld : Option Addr) (csl : Array (Option Value)), K.lookup cc = some ⟨cl, cld, .cell (some (.ref C)), csl⟩
  top : (P.main.scope.names.lookup ("super" : Str)).isSome = false
/-- what __init__ leaves of a fresh exception at x -/
structure XInit (h h' : Heap) (x C dx t1 : Addr) (fld : Str) (v : Value) : Prop where
  keep : ∀ b o, b ≠ x → h.get? b = some o → h'.get? b = some o
  obj : h'.get? x = some { cls := .ref C, dict := some dx, data := .fields #[.ref t1, .none, .none, .none, .bool false, .none] }
  dbig : h.objs.size ≤ dx
  dne : dx ≠ x
  ns : h'.Ns1 dx (fun y => if y = fld then some v else none)
section
variable {P : Program} {w : World} {A : Around} {E : Value → Shared → Prop} {R : Result → Shared → Prop} {s : Shared} {K : Frag} {mg : Str → Option Value} {st : Stmt} {C fI cc cda : Addr} {fd : FuncData} {B newId initId : String} {bmB : List Value} {fld : Str}
/-- self.f = v on a fresh exception -/
theorem xc_store {x t : Addr} {v : Value} {Q : Unit → Shared → Prop} (T : ExTxt P K st C fI cc cda fd B newId initId bmB fld) (X : K.In s.heap) (hx : s.heap.get? x = some (excObj C t none .none))
    (hq : ∀ h' tk dx, (∀ b o, b ≠ x → s.heap.get? b = some o → h'.get? b = some o) → s.heap.objs.size ≤ dx → dx ≠ x → h'.get? x = some (excObj C t (some dx) .none) → h'.Ns1 dx (fun y => if y = fld then some v else none) → Q () { s with heap := h', toks := tk }) :
    wpAny (model P w) A (setAttr (.ref x) fld v) Q E s := by
  refine set_plain (od := none) X ⟨hx, rfl, rfl, trivial⟩ T.sa ?_
  obtain ⟨hp, g, d, tk0, os⟩ := s
  refine osa_openX (od := none) T.sf X ⟨hx, rfl, rfl, trivial⟩ T.ov T.tkr fun b => ?_
  obtain ⟨cd, hc, hd'⟩ : ∃ cd, clsIn K C = some cd ∧ cd.hasDict = true := by
    have := T.hdC
    unfold hasDictIn at this
    cases e : clsIn K C with
    | none => rw [e] at this; simp at this
    | some cd => rw [e] at this; exact ⟨cd, rfl, by simpa using this⟩
  have hxs : x ≠ hp.objs.size := Nat.ne_of_lt (Heap.lt_size hx)
  refine wpAny_bind (wpAny_pure (wpAny_bind (instanceDict_exc hx (looks_clsIn X hc) hd' ?_)))
  refine store_in_new ⟨dictOf [] 0, #[], 0, (Heap.get?_update_other _ _ hxs).trans (Heap.get?_push_at rfl rfl), rfl, fun e he => absurd he (by simp), fun _ => rfl⟩ fun h' tk' hn' hs => ?_
  have e1 : ((hp.push (dictOf [] 0)).update x fun o => { o with dict := some hp.objs.size }).get? x = some (excObj C t (some hp.objs.size) .none) := Heap.get?_update_self _ (Heap.get?_push_of_some _ hx) rfl
  exact hq h' tk' hp.objs.size (fun b o hb ho => (hs.2 b (Nat.ne_of_lt (Heap.lt_size ho))).trans ((Heap.get?_update_other _ _ (Ne.symm hb)).trans (Heap.get?_push_of_some _ ho))) (Nat.le_refl _) hxs.symm ((hs.2 x hxs).trans e1) hn'
/-- __init__ runs -/
theorem xc_init (T : ExTxt P K st C fI cc cda fd B newId initId bmB fld) {x t0 : Addr} {v : Value} (X : K.In s.heap) (hg : s.heap.Ns mainGlobals mg) (hbt : ∃ mb, s.heap.Ns builtinsNs mb ∧ ∀ x : Str, x ≠ "__name__" → mb x = bootBuiltins x) (hlim : s.heap.NoLimit)
    (hx : s.heap.get? x = some (excObj C t0 none .none)) (hnx : K.lookup x = none) (hroom : A.depth < recursionLimit)
    (hq : ∀ h' tk dx t1, XInit s.heap h' x C dx t1 fld v → R (.ok (.ret .none)) { s with heap := h', toks := tk }) :
    codeAny (model P w) A (.call (.ref fI) ⟨[.ref x, v], []⟩) R s := by
  obtain ⟨qual, oc, dV, kV, doc, pm, ct, od, an, osl, rfl, hfI, hcd⟩ := T.fn
  obtain ⟨ccl, cdd, vs, ccs, file, tf, hcode, hvs, hfile⟩ := T.code
  obtain ⟨cl, cld, csl, hcell⟩ := T.clc
  obtain ⟨txt, j, a1, a2, a3, a4, a5, a6, b1, b2, b3, b4, hbody, hev⟩ := T.ini.body
  obtain ⟨pan, pp, hpar⟩ := T.ini.par
  refine ks_codeAny_call_defAt (binds := [("self", .ref x), (fld, v)]) hroom (X _ _ hfI) rfl hlim (codeRec_of X hcd) rfl (T.bnd s x v) T.ini.cell (fun y hy => ?_) (fun h₁ hn k₁ => ?_) T.ini.co T.ini.gen T.ini.kind
  · rcases List.mem_cons.mp hy with rfl | hy
    · exact T.ini.ls
    · rcases List.mem_cons.mp hy with rfl | hy
      · exact T.ini.lf
      · cases hy
  obtain ⟨hp, g, d, tk, os⟩ := s
  have X₁ : K.In h₁ := X.keeps k₁
  have hx₁ := k₁ _ _ hx
  have hxL : x ≠ hp.objs.size := Nat.ne_of_lt (Heap.lt_size hx)
  obtain ⟨mb, hb0, hbm⟩ := hbt
  obtain ⟨cdC, hcC⟩ : ∃ cd, clsIn K C = some cd := by
    have := T.hdC
    unfold hasDictIn at this
    cases e : clsIn K C with
    | none => rw [e] at this; simp at this
    | some cd => exact ⟨cd, rfl⟩
  obtain ⟨oD, hD1, hD2⟩ : ∃ oD, h₁.get? C = some oD ∧ oD.data = .cls cdC := by
    have hcC' := hcC
    unfold clsIn at hcC'
    split at hcC'
    · rename_i c d cd' sl ho
      cases hcC'
      exact ⟨_, X₁ _ _ ho, rfl⟩
    · cases hcC'
  have hself : ([("self", Value.ref x), (fld, v)] : List (Str × Value)).reverse.lookup ("self" : Str) = some (Value.ref x) := by
    have e : (("self" : Str) == fld) = false := by simpa using Ne.symm T.ini.ne
    simp [List.lookup, e]
  have hfld : ([("self", Value.ref x), (fld, v)] : List (Str × Value)).reverse.lookup fld = some v := by simp [List.lookup]
  rw [hbody]
  show PySem.wpAt _ _ (.func _ (ksEnv qual (defScope st) hp.objs.size fI (.ref cda) cc)) (execs _ (ksEnv qual (defScope st) hp.objs.size fI (.ref cda) cc)) _ _ _
  obtain ⟨pl, hev⟩ := hev (ksEnv qual (defScope st) hp.objs.size fI (.ref cda) cc)
  refine ks_wpAt_execs_cons (ks_wpAt_Expr_any (ks_wpAt_MethodCall (pl := pl) ?_ hev) (by simp [interactive, T.ini.kind]))
  refine ks_wpAt_super_base (env := ksEnv qual (defScope st) hp.objs.size fI (.ref cda) cc) T.ini.lsu T.ini.lc (by decide) rfl (X₁ _ _ hfI) rfl hpar rfl (X₁ _ _ hcode) rfl hvs hfile T.top ?_
  refine ks_loadName_global T.ini.kind T.ini.lsu (loadGlobal_builtin (env := ksEnv qual (defScope st) hp.objs.size fI (.ref cda) cc) (hg.keeps k₁) (mg_none_of X hg T.sup) (hb0.keeps k₁) ((hbm _ (by decide +kernel)).trans (by decide +kernel)) ⟨rfl, ?_⟩)
  refine wpAny_loadName_free T.ini.kind T.ini.lc rfl ⟨_, X₁ _ _ hcell, rfl⟩ ?_
  refine wpAny_loadName_local T.ini.kind T.ini.ls hn hself ?_
  refine ks_wpAny_isType_cls hD1 hD2 ⟨rfl, ?_⟩
  refine ks_wpAny_call_super hD1 hD2 hx₁ rfl (fun c e => by cases e) (looks_mroIn X₁ T.mro) (fun h₂ hso k₂ => ?_)
  have X₂ : K.In h₂ := X₁.keeps k₂
  have hx₂ := k₂ _ _ hx₁
  have hI : Looks (model P w) h₂ (isInstance (.ref x) (.type B)) true := (InstAt.type (ox := excObj C t0 none .none) (od := none) ⟨hx₂, rfl, rfl, trivial⟩).andThen (looks_subIn X₂ T.exB)
  have hxC : x ≠ C := fun z => by
    rw [← z] at hD1
    rw [hx₁] at hD1
    cases hD1
    cases hD2
  have alo := T.alo
  unfold ks_superIn at alo
  rw [hcC] at alo
  refine kxs_getMethod T.kxs hso (looks_opaque X₂ T.opq) (l₀ := cdC.mro) (fun A Q E s k q => wpAny_bind ((looks_clsIn X₂ hcC) A _ E s k (wpAny_pure q))) rfl X₂ alo hI hxC (by decide) ?_
  have k₃ : ∀ b o, h₂.get? b = some o → (h₂.push (kxs_mw initId x)).get? b = some o := fun b o e => Heap.get?_push_of_some _ e
  have hu : (h₂.push (kxs_mw initId x)).get? h₂.objs.size = some (kxs_mw initId x) := Heap.get?_push_at rfl rfl
  refine kxs_callWith (i := initId) (x := x) rfl ?_
  refine evalArgs_plain ?_
  refine spliced_cons (Constant_str (k := j) (pos := a4) ?_)
  refine spliced_nil ⟨hu, ?_⟩
  have hLs : hp.objs.size < h₂.objs.size := by
    obtain ⟨oL, _, _, hL, _⟩ := hn
    exact Heap.lt_size (k₂ _ _ hL)
  have hux : h₂.objs.size ≠ x := Nat.ne_of_gt (Heap.lt_size hx₂)
  obtain ⟨nm, Nc, qn, bs, bm, hdct, sn, sub, ab, col, dd, k0, k1, k2, k3, k5, oC, -⟩ := excInit_of (X₂.keeps k₃) T.ei
  refine init_call T.eb oC hu (k₃ _ _ hx₂) (by rw [sizeLine_eq]; exact (by decide : 1 ≤ 16777216)) fun h' kp' hx' => ?_
  have X' : K.In h' := fun a o e => kp' a o (fun z => by rw [z, hnx] at e; cases e) (k₃ _ _ (X₂ a o e))
  have ns' : h'.Ns hp.objs.size (fun y => ([("self", Value.ref x), (fld, v)] : List (Str × Value)).reverse.lookup y) := by
    obtain ⟨oL, es, ep, hL, r⟩ := (hn.keeps k₂).keeps k₃
    exact ⟨oL, es, ep, kp' _ _ (Ne.symm hxL) hL, r⟩
  have hLs' : hp.objs.size < h'.objs.size := by
    obtain ⟨oL, _, _, hL, _⟩ := ns'
    exact Heap.lt_size hL
  refine wpAt_of_wpAny (wpAny_execs_cons (plainObj_wpAny_Assign_Attribute ?_))
  refine wpAny_Name (wpAny_loadName_local T.ini.kind T.ini.lf ns' hfld ?_) T.ini.nd
  refine wpAny_Name (wpAny_loadName_local T.ini.kind T.ini.ls ns' hself ?_) (by decide)
  refine xc_store (s := ⟨h', g, d, _, os⟩) T X' hx' fun h'' tk'' dx kp dn dne ho hns => wpAny_execs_nil ?_
  exact hq h'' tk'' dx _ ⟨fun b o hb e => kp b o hb (kp' b o hb (k₃ _ _ (k₂ _ _ (k₁ _ _ e)))), ho, Nat.le_trans (Nat.le_of_lt hLs') dn, dne, hns⟩
/-- a made error -/
structure XMade (h h' : Heap) (e C d : Addr) (fld : Str) (v : Value) : Prop where
  keep : ∀ b o, h.get? b = some o → h'.get? b = some o
  new : h.objs.size ≤ e
  obj : ∃ oe vs, h'.get? e = some oe ∧ oe.cls = .ref C ∧ oe.dict = some d ∧ oe.data = .fields vs ∧ vs[1]? = some .none
  dbig : h.objs.size ≤ d
  dne : d ≠ e
  ns : h'.Ns1 d (fun y => if y = fld then some v else none)
theorem xc_made (T : ExTxt P K st C fI cc cda fd B newId initId bmB fld) {v : Value} (X : K.In s.heap) (hg : s.heap.Ns mainGlobals mg) (hbt : ∃ mb, s.heap.Ns builtinsNs mb ∧ ∀ x : Str, x ≠ "__name__" → mb x = bootBuiltins x) (hlim : s.heap.NoLimit) (hroom : A.depth + 1 < recursionLimit)
    (hq : ∀ h' tk e d, XMade s.heap h' e C d fld v → R (.ok (.ret (.ref e))) { s with heap := h', toks := tk }) :
    codeAny (model P w) A (.call (.ref C) ⟨[v], []⟩) R s := by
  obtain ⟨nm, N, qn, bs, bm, hdct, sn, sub, ab, col, dd, k0, k1, k2, k3, k5, hC, hT⟩ := excInit_of X T.ei
  obtain ⟨hp, g, dr, tk, os⟩ := s
  have k : ∀ b o, hp.get? b = some o → ((hp.push (kdv_tup [v])).push (excO C hp.objs.size)).get? b = some o := fun b o e => Heap.get?_push_of_some _ (Heap.get?_push_of_some _ e)
  have hget : ((hp.push (kdv_tup [v])).push (excO C hp.objs.size)).get? (hp.objs.size + 1) = some (excObj C hp.objs.size none .none) := by heap_get
  have hnx : K.lookup (hp.objs.size + 1) = none := by
    cases e : K.lookup (hp.objs.size + 1) with
    | none => rfl
    | some o => exact absurd (Nat.lt_of_succ_lt (Heap.lt_size (show hp.get? (hp.objs.size + 1) = some o from X _ _ e))) (Nat.lt_irrefl _)
  obtain ⟨mb, hb0, hbm⟩ := hbt
  obtain ⟨Bn, inN, bmN, F, hB⟩ := T.eb.nw
  refine made_call F ((hT _).trans hB) ((hT _).trans T.eb.na) ((hT _).trans T.eb.nn) hC (looks_findIn X T.iC) (fun self => bind_fn X self T.tC) (by rw [sizeLine_eq]; exact (by decide : 1 ≤ 16777216)) ?_
  refine xc_init (s := ⟨(hp.push (kdv_tup [v])).push (excO C hp.objs.size), g, dr, tk, os⟩) T (X.keeps k) (hg.keeps k) ⟨mb, hb0.keeps k, hbm⟩ (hlim.keeps k) hget hnx hroom fun h' tk' dx t1 M => ?_
  have z : hp.objs.size + 1 + 1 ≤ dx := by
    have q := M.dbig
    simpa only [Heap.size_push] using q
  exact ⟨rfl, hq h' tk' (hp.objs.size + 1) dx ⟨fun b o e => M.keep b o (Nat.ne_of_lt (Nat.lt_succ_of_lt (Heap.lt_size e))) (k b o e), Nat.le_succ _, ⟨_, _, M.obj, rfl, rfl, rfl, rfl⟩, by show hp.objs.size ≤ dx; omega, M.dne, M.ns⟩⟩
end
end Lad
namespace Lad
open PySem L2
theorem relO_one {v : V} {v' : Value} (r : RelV v v') (g f : Str) : RelO (List.lookup f [(g, v)]) (if f = g then some v' else none) := by
  by_cases hw : f = g
  · subst hw
    rw [if_pos rfl]
    have q : List.lookup f [(f, v)] = some v := by simp [List.lookup]
    rw [q]
    exact r
  · rw [if_neg hw]
    have qw : (f == g) = false := by simpa using hw
    have q2 : List.lookup f [(g, v)] = none := by simp [List.lookup, qw]
    rw [q2]
    trivial
def sRaise (c : Nat) (f : En → Hea → Res Val) : En → Hea → SRes := fun e h => ofR (f e h) e fun d h1 => .exc c d e h1
end Lad
end
section
set_option maxRecDepth 100000
set_option maxHeartbeats 2000000
namespace Lad
open PySem L2
mutual
def Val.noEx : Val → Bool
  | .tup xs => noExL xs
  | .lst xs => noExL xs
  | .dic _ _ xs => noExL xs
  | .obj _ _ xs => noExL xs
  | .exn _ _ => false
  | .err _ d => d.noEx
  | _ => true
def noExL : List Val → Bool
  | [] => true
  | x :: xs => x.noEx && noExL xs
end
def noExKv : List (Val × Val) → Bool
  | [] => true
  | (a, b) :: xs => b.noEx && noExKv xs
def noExFs : List (Nat × Val) → Bool
  | [] => true
  | (a, b) :: xs => b.noEx && noExFs xs
def Ob.noEx : Ob → Bool
  | .lst xs => noExL xs
  | .fro _ => true
  | .dcK xs => noExKv xs
  | .dcT xs => noExKv xs
  | .dcL xs => noExKv xs
  | .dcM xs => noExKv xs
  | .ins _ fs => noExFs fs
def noExH : Hea → Bool
  | [] => true
  | o :: os => o.noEx && noExH os
def noExE : En → Bool
  | [] => true
  | none :: r => noExE r
  | some v :: r => v.noEx && noExE r
/-- the same tables but for the handled error -/
def Sy.like (S S' : Sy) : Prop := S.K = S'.K ∧ S.ca = S'.ca ∧ S.nm = S'.nm ∧ S.fld = S'.fld ∧ S.P = S'.P ∧ S.w = S'.w
section
variable {S S' : Sy} {ρ : Own} {H : Hp}
mutual
theorem Rep.no : ∀ {d : Val} {v : V}, S.ex = none → Rep S ρ H d v → d.noEx = true
  | _, _, _, .non => rfl
  | _, _, _, .bl _ => rfl
  | _, _, _, .int _ => rfl
  | _, _, _, .str _ => rfl
  | _, _, h, .tup _ r => by simp only [Val.noEx]; exact Reps.no h r
  | _, _, h, .lst _ _ r => by simp only [Val.noEx]; exact Reps.no h r
  | _, _, h, .dicK _ _ _ _ r => by simp only [Val.noEx]; exact Reps.no h r
  | _, _, h, .dicT _ _ _ _ _ _ r => by simp only [Val.noEx]; exact Reps.no h r
  | _, _, h, .obj _ _ _ _ r => by simp only [Val.noEx]; exact Reps.no h r
  | _, _, _, .ref _ => rfl
  | _, _, h, .exn e _ _ => by rw [h] at e; cases e
  | _, _, h, .err _ _ _ r => by simp only [Val.noEx]; exact Rep.no h r
theorem Reps.no : ∀ {d : List Val} {v : List V}, S.ex = none → Reps S ρ H d v → noExL d = true
  | _, _, _, .nil => rfl
  | _, _, h, .cons r t => by simp only [noExL, Rep.no h r, Reps.no h t, Bool.and_self]
end
mutual
theorem Rep.like (l : S.like S') : ∀ {d : Val} {v : V}, d.noEx = true → Rep S ρ H d v → Rep S' ρ H d v
  | _, _, _, .non => .non
  | _, _, _, .bl _ => .bl _
  | _, _, _, .int _ => .int _
  | _, _, _, .str _ => .str _
  | _, _, h, .tup s r => .tup (by rw [← l.1]; exact s) (Reps.like l (by simpa [Val.noEx] using h) r)
  | _, _, h, .lst f q r => .lst f q (Reps.like l (by simpa [Val.noEx] using h) r)
  | _, _, h, .dicK f q e1 e2 r => .dicK f q e1 e2 (Reps.like l (by simpa [Val.noEx] using h) r)
  | _, _, h, .dicT f q e1 e2 r e3 r2 => .dicT f (by rw [← l.2.2.2.2.1, ← l.2.2.2.2.2]; exact q) e1 e2 (toNK_reps l.1.symm e2 r) e3 (Reps.like l (by simpa [Val.noEx] using h) r2)
  | _, _, h, .obj f q e1 e2 r => .obj f (by rw [← l.2.1]; exact q) (by rw [← l.2.2.1]; exact e1) e2 (Reps.like l (by simpa [Val.noEx] using h) r)
  | _, _, _, .ref e => .ref e
  | _, _, h, .exn _ _ _ => by simp [Val.noEx] at h
  | _, _, h, .err f q e r => .err f (by rw [← l.2.1]; exact q) (by rw [← l.2.2.2.1]; exact e) (Rep.like l (by simpa [Val.noEx] using h) r)
theorem Reps.like (l : S.like S') : ∀ {d : List Val} {v : List V}, noExL d = true → Reps S ρ H d v → Reps S' ρ H d v
  | _, _, _, .nil => .nil
  | _, _, h, .cons r t => by
    simp only [noExL, Bool.and_eq_true] at h
    exact .cons (Rep.like l h.1 r) (Reps.like l h.2 t)
end
theorem KvR.like {κ : Type} {kd : κ → Val} (l : S.like S') : ∀ {d : List (Val × Val)} {v : List (κ × V)}, noExKv d = true → KvR S ρ H kd d v → KvR S' ρ H kd d v
  | _, _, _, .nil => .nil
  | _, _, h, .cons r t => by
    simp only [noExKv, Bool.and_eq_true] at h
    exact .cons (Rep.like l h.1 r) (KvR.like l h.2 t)
theorem KvN.like (l : S.like S') : ∀ {d : List (Val × Val)} {v : List (NestedKey × Addr × V)}, noExKv d = true → KvN S ρ H d v → KvN S' ρ H d v
  | _, _, _, .nil => .nil
  | _, _, h, .cons r e q t => by
    simp only [noExKv, Bool.and_eq_true] at h
    exact .cons (toNK_rep l.1.symm e r) e (Rep.like l h.1 q) (KvN.like l h.2 t)
theorem KvN.no (h : S.ex = none) : ∀ {d : List (Val × Val)} {v : List (NestedKey × Addr × V)}, KvN S ρ H d v → noExKv d = true
  | _, _, .nil => rfl
  | _, _, .cons _ _ q t => by simp only [noExKv, Rep.no h q, KvN.no h t, Bool.and_self]
theorem FsR.like (l : S.like S') : ∀ {d : List (Nat × Val)} {v : List (Str × V)}, noExFs d = true → FsR S ρ H d v → FsR S' ρ H d v
  | _, _, _, .nil => .nil
  | _, _, h, .cons r t => by
    simp only [noExFs, Bool.and_eq_true] at h
    rw [l.2.2.1]
    exact .cons (Rep.like l h.1 r) (FsR.like l h.2 t)
theorem KvR.no {κ : Type} {kd : κ → Val} (h : S.ex = none) : ∀ {d : List (Val × Val)} {v : List (κ × V)}, KvR S ρ H kd d v → noExKv d = true
  | _, _, .nil => rfl
  | _, _, .cons r t => by simp only [noExKv, Rep.no h r, KvR.no h t, Bool.and_self]
theorem FsR.no (h : S.ex = none) : ∀ {d : List (Nat × Val)} {v : List (Str × V)}, FsR S ρ H d v → noExFs d = true
  | _, _, .nil => rfl
  | _, _, .cons r t => by simp only [noExFs, Rep.no h r, FsR.no h t, Bool.and_self]
theorem ObR.like (l : S.like S') {o : Ob} {a : Addr} (h : o.noEx = true) (r : ObR S ρ H o a) : ObR S' ρ H o a := by
  cases r with
  | lst h1 h2 => exact .lst h1 (h2.like l h)
  | fro h1 => exact .fro h1
  | dcK h1 h2 => exact .dcK h1 (h2.like l h)
  | dcT h1 h2 => exact .dcT (by rw [← l.2.2.2.2.1, ← l.2.2.2.2.2]; exact h1) (h2.like l h)
  | dcL h1 h2 => exact .dcL h1 (h2.like l h)
  | dcM h1 h2 => exact .dcM (by rw [← l.2.2.2.2.1, ← l.2.2.2.2.2]; exact h1) (h2.like l h)
  | ins h1 h2 => exact .ins (by rw [← l.2.1]; exact h1) (h2.like l h)
theorem ObR.no (h : S.ex = none) {o : Ob} {a : Addr} (r : ObR S ρ H o a) : o.noEx = true := by
  cases r with
  | lst h1 h2 => exact h2.no h
  | fro h1 => rfl
  | dcK h1 h2 => exact h2.no h
  | dcT h1 h2 => exact h2.no h
  | dcL h1 h2 => exact h2.no h
  | dcM h1 h2 => exact h2.no h
  | ins h1 h2 => exact h2.no h
theorem noExH_get : ∀ {h : Hea} {i : Nat} {o : Ob}, noExH h = true → h[i]? = some o → o.noEx = true
  | o :: os, 0, _, h, e => by
    simp only [noExH, Bool.and_eq_true] at h
    cases e
    exact h.1
  | o :: os, i + 1, _, h, e => by
    simp only [noExH, Bool.and_eq_true] at h
    exact noExH_get (i := i) h.2 e
  | [], _, _, _, e => by simp at e
theorem Rel.like {h : Hea} (l : S.like S') (hn : ∀ (i : Nat) (o : Ob), h[i]? = some o → o.noEx = true) (R : Rel S ρ h H) : Rel S' ρ h H := ⟨R.len, R.inj, fun i o a e1 e2 => (R.ob i o a e1 e2).like l (hn i o e1), R.hid⟩
theorem Rel.no {h : Hea} (hx : S.ex = none) (R : Rel S ρ h H) : ∀ (i : Nat) (o : Ob), h[i]? = some o → o.noEx = true := fun i o e => by
  obtain ⟨a, _, r⟩ := R.at e
  exact r.no hx
theorem ER.like (l : S.like S') : ∀ {e : En} {σ : St}, noExE e = true → ER S ρ H e σ → ER S' ρ H e σ
  | _, _, _, .nil => .nil
  | none :: _, _, h, .cons r t => .cons (fun x e => nomatch e) (ER.like l h t)
  | some v :: _, _, h, .cons r t => by
    simp only [noExE, Bool.and_eq_true] at h
    exact .cons (fun x e => by
      obtain ⟨y, ey, q⟩ := r x e
      cases e
      exact ⟨y, ey, q.like l h.1⟩) (ER.like l h.2 t)
theorem ER.no (hx : S.ex = none) : ∀ {e : En} {σ : St}, ER S ρ H e σ → noExE e = true
  | _, _, .nil => rfl
  | none :: _, _, .cons r t => by
    simp only [noExE]
    exact ER.no hx t
  | some v :: _, _, .cons r t => by
    obtain ⟨y, ey, q⟩ := r v rfl
    simp only [noExE, q.no hx, ER.no hx t, Bool.and_self]
theorem Kp.like (l : S.like S') {H' : Hp} (k : Kp S H H') : Kp S' H H' := ⟨fun a xs h => by rw [← l.1] at h ⊢; exact k.1 a xs h, k.2⟩
theorem Go.like (l : S.like S') {ρ' : Own} {H' : Hp} (g : Go S ρ H ρ' H') : Go S' ρ H ρ' H' := ⟨g.sub, g.kp.like l, g.fr, g.nw, g.hd⟩
end
/-- what a suite leaves -/
def suiteEnd (i : Nat) (h1 : Hea) : SRes → SRes
  | .rt v h2 => if (noExH h2 && v.noEx) = true then .rt v h2 else .stuck
  | .nx e2 h2 => if (noExH h2 && noExE (e2.set i none)) = true then .nx (e2.set i none) h2 else .stuck
  | _ => .stuck
section
variable {T : Tb} {X : Cx} {W : WX} {x n : Str} {cv : Value} {i : Nat} {body suite : List Stmt} {b₀ : Stmt} {np pos pos' : Pos} {fb fs : En → Hea → SRes} {sub : Nat → Option Bool}
abbrev Tb.at (T : Tb) (a : Addr) (c : Nat) (dx : Addr) : Tb := { T with ex := some (a, c, dx) }
theorem like_at {a : Addr} {c : Nat} {dx : Addr} : (sy T X).like (sy (T.at a c dx) X) := ⟨rfl, rfl, rfl, rfl, rfl, rfl⟩
theorem like_off {a : Addr} {c : Nat} {dx : Addr} : (sy (T.at a c dx) X).like (sy T X) := ⟨rfl, rfl, rfl, rfl, rfl, rfl⟩
theorem ends_ok {i : Nat} {a : Addr} {c : Nat} {dx : Addr} {ρ : Own} {H : Hp} {h1 : Hea} {r : SRes} {D : Ends} (hx : T.ex = none) (R : Rel (sy T X) ρ h1 H) (q : AftS (sy T X) ρ H (suiteEnd i h1 r) D W) :
    AftS (sy (T.at a c dx) X) ρ H r { nx := fun σ' H' => D.nx (σ'.set i none) H', rt := D.rt, bk := fun σ' H' => D.bk (σ'.set i none) H', ct := fun σ' H' => D.ct (σ'.set i none) H' } W0 := by
  have hn := R.no hx
  cases r with
  | rt v h2 =>
    unfold suiteEnd at q
    dsimp only at q
    split at q
    · rename_i hb
      simp only [Bool.and_eq_true] at hb
      exact fun ρ1 u H1 s R1 r1 => q ρ1 u H1 (s.like like_off) (R1.like like_off (fun _ _ z => noExH_get hb.1 z)) (r1.like like_off hb.2)
    · exact q.elim
  | nx e2 h2 =>
    unfold suiteEnd at q
    dsimp only at q
    split at q
    · rename_i hb
      simp only [Bool.and_eq_true] at hb
      exact fun ρ1 σ1 H1 s R1 E1 => q ρ1 _ H1 (s.like like_off) (R1.like like_off (fun _ _ z => noExH_get hb.1 z)) ((E1.gone i).like like_off hb.2)
    · exact q.elim
  | bk e2 h2 => exact q.elim
  | ct e2 h2 => exact q.elim
  | exc c2 d2 e2 h2 => exact q.elim
  | stuck => exact q.elim
end
end Lad
end
section
set_option maxRecDepth 100000
set_option maxHeartbeats 2000000
namespace Lad
open PySem L2
end Lad
end
section
set_option maxRecDepth 100000
set_option maxHeartbeats 2000000
namespace Lad
open PySem L2
def setIx (h : Hea) (o i v : Val) : Option Hea := match o, i with
  | .ref p, .int k => match h[p]? with
    | some (.lst xs) => match ixN xs.length k with
      | some j => some (h.set p (.lst (xs.set j v)))
      | none => none
    | _ => none
  | _, _ => none
def sSetIx (fv fo fi : En → Hea → Res Val) : En → Hea → SRes := fun e h => ofR ((fv e h).bind fun v h1 => (fo e h1).bind fun o h2 => (fi e h2).bind fun i h3 => match setIx h3 o i v with
    | some h4 => .ok Val.non h4
    | none => .stuck) e fun _ h4 => .nx e h4
section
variable {T : Tb} {X : Cx} {W : WX} {a o i : Expr} {fv fo fi : En → Hea → Res Val} {pos pos' : Pos}
theorem st_setIx (hv : SE T X W a fv) (ho : SE T X W o fo) (hi : SE T X W i fi)
    (ha : ∀ v, assign (.Subscript o i pos') X.env v = (do
      let ov ← holding [v] (eval o X.env)
      let iv ← holding [v, ov] (eval i X.env)
      standAt pos'
      holding [v, ov, iv] (setItem ov iv v)
      release [v, ov, iv] []) := by intro _; rfl)
    (hs : swapsWithSole [.Subscript o i pos'] a pos.line X.env = pure false := by rfl) (hw : swappedStores [.Subscript o i pos'] a X.env = pure none := by rfl)
    (h1 : (assignEach [.Subscript o i pos'] X.env).map (·.2) = [assign (.Subscript o i pos') X.env] := by rfl) : SSt T X W (.Assign [.Subscript o i pos'] a pos) (sSetIx fv fo fi) :=
  (ps_asg hv (pg_sub ho hi set_list ha) hs hw h1).imp fun D σ H q => by
    obtain ⟨ρ, e, h, R, E, a⟩ := q
    unfold sSetIx at a
    have a := (AftS.ofR a E).bind
    refine ⟨ρ, e, h, R, E, a.mono fun v H1 ⟨ρ1, d, h1, s, R1, r1, a1⟩ => ⟨ρ1, e, h1, R1, E.go s, a1.bind.mono fun ov H2 ⟨ρ2, od, h2, s2, R2, r2, a2⟩ => ⟨ρ2, e, h2, R2, (E.go s).go s2, a2.bind.mono fun iv H3 ⟨ρ3, id, h3, s3, R3, r3, a3⟩ => ?_⟩⟩⟩
    unfold setIx at a3
    split at a3
    · rename_i h4 hset
      split at hset
      · split at hset
        · rename_i xs hxs
          split at hset
          · rename_i j hj
            cases hset
            obtain ⟨p, rfl, ep⟩ := (r2.go s3).ref_
            obtain rfl := r3.int_
            have ob := R3.ob _ _ _ hxs ep
            cases ob with
            | @lst _ vs _ hl hr =>
              refine ⟨p, _, _, j, rfl, rfl, hl, by rw [← hr.length]; exact hj, ?_⟩
              have rv := (r1.go s2).go s3
              have kp : Mv (sy T X) ρ3 H3 ρ3 (upd H3 p (.lst (List.set vs j v))) := .put ep hl True.intro
              have R4 := R3.put (o := .lst (List.set vs j v)) (ob := .lst (List.set xs j d)) ep hl True.intro (.lst upd_same ((hr.set rv j).mono kp))
              have g4 : Go (sy T X) ρ3 H3 ρ3 (upd H3 p (.lst (List.set vs j v))) := .put ep hl True.intro
              obtain ⟨ρ5, d5, h5, s5, R5, r5, E5, a5⟩ := a3 ρ3 .non _ g4 R4 .non
              exact a5 ρ5 σ _ .rfl R5 E5
          · cases hset
        · cases hset
      · cases hset
    · exact a3.elim
end
def iSeq (f : En → Hea → Res Val) : En → Hea → Res Src := fun e h => (f e h).bind fun d h1 => match d with
  | .ref i => if (lstAt h1 i).isSome = true then .ok (srcLive i) h1 else .stuck
  | .tup xs => .ok (srcFix xs) h1
  | .lst xs => .ok (srcFix xs) h1
  | _ => .stuck
theorem pi_or {X : Cx} {tg e : Expr} {t u : TI} (h1 : PI X tg e t) (h2 : PI X tg e u) : PI X tg e (fun σ H R => t σ H R ∨ u σ H R) := ⟨fun pins s σ H R I q => by
  rcases q with q | q
  · exact h1.run pins s σ H R I q
  · exact h2.run pins s σ H R I q⟩
section
variable {T : Tb} {X : Cx} {W : WX} {tg a : Expr} {f : En → Hea → Res Val}
theorem si_seq (ha : SE T X W a f) : SI T X W tg a (iSeq f) := (pi_or (si_val (tg := tg) ha) (si_tup (tg := tg) ha)).imp fun σ H Q q => by
  obtain ⟨ρ, e, h, R, E, a⟩ := q
  by_cases hc : ∃ xs h1, f e h = .ok (.tup xs) h1
  · obtain ⟨xs, h1, hf⟩ := hc
    refine .inr ⟨ρ, e, h, R, E, ?_⟩
    unfold iSeq at a
    unfold iTupV
    rw [hf] at a ⊢
    exact a
  · refine .inl ⟨ρ, e, h, R, E, ?_⟩
    unfold iSeq at a
    unfold iVal
    cases hf : f e h with
    | ok d h1 =>
      rw [hf] at a
      cases d with
      | tup xs => exact absurd ⟨xs, h1, hf⟩ hc
      | _ => exact a
    | exc c d h1 => rw [hf] at a; exact a
    | stuck => rw [hf] at a; exact a
end
section
variable {T : Tb} {X : Cx} {W : WX} {a : Expr} {f : En → Hea → Res Val} {p2 pos : Pos}
def eOpt (f : Option (En → Hea → Res Val)) (e : En) (h : Hea) : Res (Option Int) := match f with
  | none => .ok none h
  | some g => (g e h).bind fun i h3 => match i with | .int i => .ok (some i) h3 | _ => .stuck
def cutL (xs : List Val) (lo hi : Option Int) : List Val := (xs.drop (HT.sIx xs.length 0 lo)).take (HT.sIx xs.length xs.length hi - HT.sIx xs.length 0 lo)
/-- xs[lo:hi], xs a list -/
def lCut (f : En → Hea → Res Val) (lo hi : Option (En → Hea → Res Val)) : En → Hea → Res (List Val) := fun e h => (f e h).bind fun d h1 => (eOpt lo e h1).bind fun l h2 => (eOpt hi e h2).bind fun u h3 => match lstOf h3 d with
  | some xs => .ok (cutL xs l u) h3
  | none => .stuck
def tO (S : Sy) (W : WX) (f : Option (En → Hea → Res Val)) : TO := fun σ H Q => ∃ ρ e h, Rel S ρ h H ∧ ER S ρ H e σ ∧ (match eOpt f e h with
  | .ok l h' => ∀ ρ' H', Go S ρ H ρ' H' → Rel S ρ' h' H' → Q l H'
  | .exc c d h' => ∀ ρ' v H' dx, Go S ρ H ρ' H' → Rel S ρ' h' H' → Rep S ρ' H' d v → H' dx = some (.xd [(S.fld c, v)]) → W (.ref (S.ca c)) (some dx) σ H'
  | .stuck => False)
theorem so_none : PO X none (tO (sy T X) W none) := ⟨fun pins s σ H Q I q => po_none.run pins s σ H Q I (by
  obtain ⟨ρ, e, h, R, E, a⟩ := q
  exact a ρ H .rfl R)⟩
theorem so_some {e : Expr} (he : SE T X W e f) : PO X (some e) (tO (sy T X) W (some f)) := ⟨fun pins s σ H Q I q => (po_some he).run pins s σ H Q I (by
  obtain ⟨ρ, e, h, R, E, a⟩ := q
  refine ⟨ρ, e, h, R, E, ?_⟩
  unfold eOpt at a
  revert a
  dsimp only
  cases f e h with
  | ok d h1 =>
    intro a ρ1 v H1 s R1 r1
    cases d with
    | int i =>
      obtain rfl := r1.int_
      exact ⟨i, rfl, a ρ1 H1 s R1⟩
    | _ => exact a.elim
  | exc c d h1 => exact fun a => a
  | stuck => exact fun a => a)⟩
end
end Lad
end
section
set_option maxRecDepth 100000
set_option maxHeartbeats 2000000
namespace Lad
open PySem L2
theorem Reps.slc {S : Sy} {ρ : Own} {H : Hp} {xs : List Val} {vs : List V} (r : Reps S ρ H xs vs) (lo hi : Option Int) : Reps S ρ H (cutL xs lo hi) (cutV vs lo hi) := by
  unfold cutL cutV
  rw [r.length]
  exact (r.drop _).take _
section
variable {S : Sy} {ρ : Own} {H : Hp} {f : Option (En → Hea → Res Val)} {e : En} {h : Hea} {W : XK}
def AftO (S : Sy) (ρ : Own) (H : Hp) (r : Res (Option Int)) (Q : Option Int → Hp → Prop) (W : XK) : Prop := match r with
  | .ok l h' => ∀ ρ' H', Go S ρ H ρ' H' → Rel S ρ' h' H' → Q l H'
  | .exc c d h' => ∀ ρ' v H' dx, Go S ρ H ρ' H' → Rel S ρ' h' H' → Rep S ρ' H' d v → H' dx = some (.xd [(S.fld c, v)]) → W (.ref (S.ca c)) (some dx) H'
  | .stuck => False
theorem AftO.bind {r : Res (Option Int)} {k : Option Int → Hea → Res Val} {Q : VK} (a : Aft S ρ H (r.bind k) Q W) : AftO S ρ H r (fun l H1 => ∃ ρ1 h1, Go S ρ H ρ1 H1 ∧ Rel S ρ1 h1 H1 ∧ Aft S ρ1 H1 (k l h1) Q W) W := by
  cases r with
  | ok l h => exact fun ρ1 H1 s R => ⟨ρ1, h, s, R, Aft.later (r := k l h) a s⟩
  | exc c d h => exact a
  | stuck => exact a
theorem AftO.bindL {r : Res (Option Int)} {k : Option Int → Hea → Res (List Val)} {Q : VK} (a : AftL S ρ H (r.bind k) Q W) : AftO S ρ H r (fun l H1 => ∃ ρ1 h1, Go S ρ H ρ1 H1 ∧ Rel S ρ1 h1 H1 ∧ AftL S ρ1 H1 (k l h1) Q W) W := by
  cases r with
  | ok l h => exact fun ρ1 H1 s R => ⟨ρ1, h, s, R, AftL.later (r := k l h) a s⟩
  | exc c d h => exact a
  | stuck => exact a
theorem AftO.mono {r : Res (Option Int)} {Q Q' : Option Int → Hp → Prop} (a : AftO S ρ H r Q W) (h : ∀ v H', Q v H' → Q' v H') : AftO S ρ H r Q' W := by
  cases r with
  | ok l h1 => exact fun ρ1 H1 s R => h _ _ (a ρ1 H1 s R)
  | exc c d h => exact a
  | stuck => exact a
end
section
variable {T : Tb} {X : Cx} {W : WX} {a : Expr} {lo hi : Option Expr} {f : En → Hea → Res Val} {l u : Option (En → Hea → Res Val)} {p2 pos : Pos}
/-- xs[lo:hi] of a list, to be used at once -/
theorem sl_cut (ha : SE T X W a f) (hl : PO X lo (tO (sy T X) W l)) (hu : PO X hi (tO (sy T X) W u)) : SL T X W (.Subscript a (.Slice lo hi none p2) pos) (lCut f l u) :=
  (pe_slice L2.sl_list ha hl hu).imp fun σ H Q q => by
    obtain ⟨ρ, e, h, R, E, a⟩ := q
    unfold lCut at a
    refine ⟨ρ, e, h, R, E, (AftL.bind1 a).mono fun v H1 ⟨ρ1, d, h1, s, R1, r1, a1⟩ => ⟨ρ1, e, h1, R1, E.go s, (AftO.bindL a1).mono fun lv H2 ⟨ρ2, h2, s2, R2, a2⟩ => ⟨ρ2, e, h2, R2, (E.go s).go s2, (AftO.bindL a2).mono fun uv H3 ⟨ρ3, h3, s3, R3, a3⟩ => ?_⟩⟩⟩
    split at a3
    · rename_i xs hx
      obtain ⟨p, vs, ev, sq, rr⟩ := R3.lstV ((r1.go s2).go s3) hx
      exact ⟨p, vs, ev, sq, fun l n => a3.made R3 (rr.slc lv uv) l n⟩
    · exact a3.elim
end
end Lad
end
section
set_option maxRecDepth 100000
set_option maxHeartbeats 2000000
namespace Lad
open PySem L2
open PySem.W (Frag)
def fdOf (K : Frag) (f : Addr) : FuncData := match K.lookup f with
  | some ⟨_, _, .func fd, _⟩ => fd
  | _ => PySem.W.fnOf "" "" ⟨[], [], none, [], [], none, []⟩ [] ⟨.function, [], false, false, []⟩ .none .none .none .none none .none .none
/-- an own error class with an __init__ of the known shape -/
structure ErD where
  cls : Str
  st : Stmt
  qual : Str
  fld : Str
def erI (K : Frag) (d : ErD) : Addr := He.ma K (He.ga K d.cls) "__init__"
def erW (K : Frag) (d : ErD) : He.FnW := match K.lookup (erI K d) with
  | some ⟨_, _, .func fd, _⟩ => some (fd.name, fd.qualname, fd.params, fd.body, fd.scope, fd.globals, fd.closure.map (fun p => (p.1, 0)), fd.builtins)
  | _ => none
def ErD.val (d : ErD) : He.FnW := some ("__init__", d.qual, defArgs d.st, .stmts (defBody d.st), defScope d.st, mainGlobals, [("__class__", 0)], builtinsNs)
def erCda (K : Frag) (d : ErD) : Addr := match K.lookup (erI K d) with
  | some ⟨_, _, .func fd, _⟩ => (match fd.code with | .ref a => a | _ => 0)
  | _ => 0
def erCc (K : Frag) (d : ErD) : Addr := match K.lookup (erI K d) with
  | some ⟨_, _, .func fd, _⟩ => (match fd.closure with | [(_, a)] => a | _ => 0)
  | _ => 0
def noneB : Value → Bool
  | .none => true
  | _ => false
def eqO (a b : Option (Option Value)) : Bool := decide (a = b)
def erB (file : Str) (B newId initId : String) (bmB : List Value) (K : Frag) (d : ErD) : Bool :=
  let C := He.ga K d.cls
  (match K.lookup (erI K d) with
    | some ⟨_, _, .func fd, _⟩ => noneB fd.defaults && (match fd.code, fd.closure with
      | .ref cda, [(_, cc)] => PySem.W.codeIn K (.ref cda) d.qual &&
        ((match K.lookup cda with
          | some ⟨_, _, .fields vs, _⟩ => (match (vs[2]? : Option Value) with
            | some (.str z _) => file == z
            | _ => false)
          | _ => false) &&
        (match K.lookup cc with
          | some ⟨_, _, .cell (some (.ref D)), _⟩ => decide (D = C)
          | _ => false))
      | _, _ => false)
    | _ => false) &&
  (PySem.W.excInitIn K C bmB newId && (PySem.W.excOver K C bmB && (eqO (PySem.W.findIn K (.ref C) "__setattr__") (some (some (.builtin "object.__setattr__"))) &&
  (eqO (PySem.W.takerIn K C d.fld) (some none) && (eqO (PySem.W.findIn K (.ref C) "__init__") (some (some (.ref (erI K d)))) && (decide (PySem.W.typeIn K (.ref (erI K d)) = some (.type "function")) &&
  (PySem.W.keepIn K (.ref C) && (decide (PySem.W.subIn K (.ref C) (.type "BaseException") = some true) && (decide (PySem.W.subIn K (.ref C) (.type B) = some true) && (decide (PySem.W.typeIn K (.ref C) = some (.type "type")) &&
  (PySem.W.hasDictIn K C && (decide (PySem.W.mroIn K C (.ref C) = some true) && (eqO (PySem.W.nsIn K mainGlobals "super") (some none) && (eqO (PySem.W.nsIn K cStatics "thirdparty.any") (some none) &&
  eqO (PySem.W.ks_superIn K C C "__init__") (some (some (.builtin initId)))))))))))))))))
theorem eqO_ok {a b : Option (Option Value)} (h : eqO a b = true) : a = b := of_decide_eq_true h
theorem noneB_ok {v : Value} (h : noneB v = true) : v = .none := by
  cases v <;> first | rfl | exact absurd h Bool.false_ne_true
theorem ErD.txtM {P : Program} {K : Frag} {d : ErD} {B newId initId : String} {bmB : List Value} (kxs : PySem.W.KxsFacts B initId) (eb : MkFacts newId initId bmB) (sf : PySem.StoreFacts B bmB "object.__setattr__" "object") (ini : InitOk d.st d.fld)
    (hb : ∀ (kV doc pm : Value) (an : Option Addr) (cdv ct : Value) (cc : Addr) (u v : Value), bindArgs (PySem.W.ksFn "__init__" d.qual (defArgs d.st) (defBody d.st) (defScope d.st) .none kV doc pm an cdv ct cc) ⟨[u, v], []⟩ = pure ([("self", u), (d.fld, v)] : List (Str × Value)))
    (top : (P.main.scope.names.lookup ("super" : Str)).isSome = false) (e : erW K d = d.val) (c : erB P.main.file B newId initId bmB K d = true) :
    ExTxt P K d.st (He.ga K d.cls) (erI K d) (erCc K d) (erCda K d) (fdOf K (erI K d)) B newId initId bmB d.fld := by
  unfold erB at c
  simp only [Bool.and_eq_true] at c
  obtain ⟨c0, c1, c2, c3, c4, c5, c6, c7, c8, c9, c10, c11, c12, c13, c14, c15⟩ := c
  unfold erW at e
  cases q : K.lookup (erI K d) with
  | none => rw [q] at c0; exact absurd c0 Bool.false_ne_true
  | some o =>
    obtain ⟨oc, od, dt, osl⟩ := o
    rw [q] at c0 e
    cases dt with
    | func fd =>
      obtain ⟨n1, n2, n3, n4, n5, n6, n7, n8, n9, n10, n11, n12, n13, n14, n15⟩ := fd
      have e2 : (some (n1, n2, n3, n4, n5, n6, n7.map (fun p => (p.1, 0)), n15) : He.FnW) = (some ("__init__", d.qual, defArgs d.st, .stmts (defBody d.st), defScope d.st, mainGlobals, [("__class__", 0)], builtinsNs) : He.FnW) := e
      simp only [Option.some.injEq, Prod.mk.injEq] at e2
      obtain ⟨h1, h2, h3, h4, h5, h6, h7, h8⟩ := e2
      subst h1 h2 h3 h4 h5 h6 h8
      dsimp only at c0
      obtain ⟨k1, k2⟩ := Bool.and_eq_true_iff.mp c0
      obtain rfl := noneB_ok k1
      match n7, h7 with
      | [(nm, cc)], h7 =>
        have e7 : nm = "__class__" := by
          have h8 : ((nm, 0) : Str × Addr) = ((("__class__" : Str), 0) : Str × Addr) := (List.cons.inj h7).1
          exact (Prod.mk.inj h8).1
        subst e7
        cases n13 with
        | ref cda =>
          dsimp only at k2
          obtain ⟨k2, k34⟩ := Bool.and_eq_true_iff.mp k2
          obtain ⟨k3, k4⟩ := Bool.and_eq_true_iff.mp k34
          have efd : fdOf K (erI K d) = PySem.W.ksFn "__init__" d.qual (defArgs d.st) (defBody d.st) (defScope d.st) .none n9 n10 n11 n12 (.ref cda) n14 cc := by unfold fdOf; rw [q]
          have ecd : erCda K d = cda := by unfold erCda; rw [q]
          have ecc : erCc K d = cc := by unfold erCc; rw [q]
          rw [efd, ecd, ecc]
          refine ⟨kxs, eb, sf, ini, c1, c2, eqO_ok c3, eqO_ok c4, eqO_ok c5, of_decide_eq_true c6, c7, of_decide_eq_true c8, of_decide_eq_true c9, of_decide_eq_true c10, c11, of_decide_eq_true c12, eqO_ok c13, eqO_ok c14, eqO_ok c15,
            ⟨_, _, _, _, _, _, _, _, _, _, rfl, q, k2⟩, fun s x v => BindsTo.of_eq (hb _ _ _ _ _ _ _ _ _), ?_, ?_, top⟩
          · split at k3
            · rename_i lk
              split at k3
              · rename_i hv
                exact ⟨_, _, _, _, _, _, lk, hv, k3⟩
              · exact absurd k3 Bool.false_ne_true
            · exact absurd k3 Bool.false_ne_true
          · split at k4
            · rename_i lk
              obtain rfl := of_decide_eq_true k4
              exact ⟨_, _, _, lk⟩
            · exact absurd k4 Bool.false_ne_true
        | _ => exact absurd k2 Bool.false_ne_true
    | _ => exact absurd c0 Bool.false_ne_true
/-- a caught error's class: attributes, isinstance -/
theorem ErD.txt {P : Program} {K : Frag} {d : ErD} {B newId initId : String} {bmB : List Value} (kxs : PySem.W.KxsFacts B initId) (eb : PySem.ExcBaseFacts B newId initId bmB) (sf : PySem.StoreFacts B bmB "object.__setattr__" "object") (ini : InitOk d.st d.fld)
    (hb : ∀ (kV doc pm : Value) (an : Option Addr) (cdv ct : Value) (cc : Addr) (u v : Value), bindArgs (PySem.W.ksFn "__init__" d.qual (defArgs d.st) (defBody d.st) (defScope d.st) .none kV doc pm an cdv ct cc) ⟨[u, v], []⟩ = pure ([("self", u), (d.fld, v)] : List (Str × Value)))
    (top : (P.main.scope.names.lookup ("super" : Str)).isSome = false) (e : erW K d = d.val) (c : erB P.main.file B newId initId bmB K d = true) :
    ExTxt P K d.st (He.ga K d.cls) (erI K d) (erCc K d) (erCda K d) (fdOf K (erI K d)) B newId initId bmB d.fld := ErD.txtM kxs (.of eb) sf ini hb top e c
def excB (K : Frag) (C : Addr) : Bool := xfB K C && (eqO (PySem.W.findIn K (.ref C) "__class__") (some (some (.builtin "object.__class__"))) && (eqO (PySem.W.specialIn K (.builtin "object.__class__") "__get__") (some (some (.builtin "getset_descriptor.__get__"))) &&
  (decide (PySem.W.takesIn K (.builtin "object.__class__") = some true) && decide (PySem.W.mroIn K C (.type "object") = some true))))
theorem excB_ok {K : Frag} {C : Addr} (h : excB K C = true) : XfC K C ∧ ExcC K C := by
  unfold excB at h
  simp only [Bool.and_eq_true] at h
  obtain ⟨h0, h1, h2, h3, h4⟩ := h
  have x := xfB_ok h0
  exact ⟨x, ⟨x.ga, x.gg, x.exC, x.hdC, eqO_ok h1, eqO_ok h2, of_decide_eq_true h3, of_decide_eq_true h4⟩⟩
theorem fun_of {K : Frag} {d : He.DefD} {x qual : Str} {st : Stmt} (hd : d = ⟨d.at_, x, qual, defArgs st, defBody st, defScope st, [], []⟩) (e : He.fnW K d.at_ = d.val) (c : d.ok K = true) : Fun K x qual st (He.fAd K d.at_) (fdOf K (He.fAd K d.at_)) := by
  obtain ⟨fd, F⟩ := He.DefD.funD e c
  obtain ⟨oc, od, dV, kV, doc, pm, an, cdv, ct, osl, rfl, lk, hcd, hdf, _⟩ := F.ex
  have dn : dV = .none := by
    rcases hdf with ⟨_, h⟩ | ⟨h, _⟩
    · exact h
    · rw [hd] at h
      exact absurd rfl h
  subst dn
  have ef : fdOf K (He.fAd K d.at_) = PySem.W.fnOf d.name d.qual d.params d.body d.scope .none kV doc pm an cdv ct := by unfold fdOf; rw [lk]
  rw [ef]
  obtain ⟨at_, _, _, _, _, _, _, _⟩ := d
  cases hd
  exact ⟨⟨oc, od, kV, doc, pm, an, cdv, ct, osl, rfl, lk, hcd⟩, F.kp⟩
abbrev Chk : Type := Frag → Bool
abbrev AlL : Type := Bool × List He.FnW × List He.FnW
def obsL (fa : List Chk) (fn : List He.DefD) (er : List ErD) (K : Frag) : AlL := ((fa.all fun f => f K) && fn.all fun d => d.ok K, fn.map fun d => He.fnW K d.at_, er.map fun d => erW K d)
def valL (fn : List He.DefD) (er : List ErD) : AlL := (true, fn.map He.DefD.val, er.map ErD.val)
def SaysL (fa : List Chk) (fn : List He.DefD) (er : List ErD) (K : Frag) : Prop := obsL fa fn er K = valL fn er
section
variable {fa : List Chk} {fn : List He.DefD} {er : List ErD} {K : Frag}
theorem SaysL.fact (c : SaysL fa fn er K) (i : Nat) {f : Chk} (h : fa[i]? = some f := by rfl) : f K = true := by
  have c1 := (Bool.and_eq_true_iff.mp (show ((fa.all fun f => f K) && fn.all fun d => d.ok K) = true from congrArg (fun z : AlL => z.1) c)).1
  exact List.all_eq_true.mp c1 f (List.mem_of_getElem? h)
theorem SaysL.fn_ (c : SaysL fa fn er K) (i : Nat) {d : He.DefD} (h : fn[i]? = some d) : He.fnW K d.at_ = d.val ∧ d.ok K = true := by
  have c2 := (Bool.and_eq_true_iff.mp (show ((fa.all fun f => f K) && fn.all fun d => d.ok K) = true from congrArg (fun z : AlL => z.1) c)).2
  have e : fn.map (fun d => He.fnW K d.at_) = fn.map He.DefD.val := congrArg (fun z : AlL => z.2.1) c
  have e2 : (fn.map fun d => He.fnW K d.at_)[i]? = (fn.map He.DefD.val)[i]? := by rw [e]
  rw [List.getElem?_map, List.getElem?_map, h] at e2
  exact ⟨Option.some.inj e2, List.all_eq_true.mp c2 d (List.mem_of_getElem? h)⟩
theorem SaysL.er_ (c : SaysL fa fn er K) (i : Nat) {d : ErD} (h : er[i]? = some d) : erW K d = d.val := by
  have e : er.map (fun d => erW K d) = er.map ErD.val := congrArg (fun z : AlL => z.2.2) c
  have e2 : (er.map fun d => erW K d)[i]? = (er.map ErD.val)[i]? := by rw [e]
  rw [List.getElem?_map, List.getElem?_map, h] at e2
  exact Option.some.inj e2
end
end Lad
end
section
set_option maxRecDepth 100000
set_option maxHeartbeats 2000000
namespace Lad
open PySem L2
open PySem.W (Frag)
structure SmD where
  at_ : Str × Str
  name : Str
  qual : Str
  st : Stmt
def SmD.val (d : SmD) : He.FnW := some (d.name, d.qual, defArgs d.st, .stmts (defBody d.st), defScope d.st, mainGlobals, [], builtinsNs)
end Lad
end
section
set_option maxRecDepth 100000
set_option maxHeartbeats 1000000
namespace Lad
open PySem L2
open PySem.W (Frag)
def obsLX (as : List Addr) (fa : List Chk) (fn : List He.DefD) (er : List ErD) (g : Addr → Option Obj) : AlL := obsL fa fn er (He.frG g as)
def hookLX (as : List Addr) (fa : List Chk) (fn : List He.DefD) (er : List ErD) : PySem.W.Hook where
  α := AlL
  obs := fun s => obsLX as fa fn er s.heap.get?
  val := fun _ => valL fn er
  says := fun _ h => ∃ K : Frag, K.In h ∧ SaysL fa fn er K
  of := fun _ _ e => ⟨_, He.frG_in, e⟩
  keeps := fun _ _ _ ⟨K, hK, c⟩ k => ⟨K, PySem.W.Frag.In.keeps hK k, c⟩
theorem obsLX_eq {as : List Addr} {fa : List Chk} {fn : List He.DefD} {er : List ErD} {g : Addr → Option Obj} {s : Shared} (h : ∀ a, g a = s.heap.get? a) : obsLX as fa fn er g = (hookLX as fa fn er).obs s := by
  have e : g = s.heap.get? := funext h
  rw [e] <;> rfl
end Lad
end
section
set_option maxRecDepth 100000
set_option maxHeartbeats 2000000
namespace Lad
open PySem
open L2 PySem.Spec PyProof.Rows
inductive ZK where
  | L | T
def ZK.sq : ZK → PySem.W.Frag → Hp → Addr → List V → Prop
  | .L => SqL
  | .T => SqT
def ZK.itr : ZK → Heap → Addr → Addr → Nat → Prop
  | .L => Heap.IsListIter
  | .T => Heap.IsTupleIter
def ZK.obj : ZK → Addr → Obj
  | .L, a => { cls := .type "list_iterator", data := .fields #[.ref a, .int 0 0] }
  | .T, a => { cls := .type "tuple_iterator", data := .fields #[.ref a, .int 0 0] }
section
variable {P : Program} {w : World} {A : Around} {K : PySem.W.Frag}
theorem ZK.start : ∀ {k : ZK} {h : Heap} {it a : Addr}, h.get? it = some (k.obj a) → k.itr h it a 0
  | .L, _, _, _, e => ⟨_, e, rfl, rfl⟩
  | .T, _, _, _, e => ⟨_, e, rfl, rfl⟩
theorem ZK.one {X : Cx} {pins : List (Addr × Obj)} {σ : L2.St} {H : Hp} {s : Shared} (I : Inv X pins σ H s) : ∀ {k : ZK} {a : Addr} {xs ys : List V}, k.sq X.K H a xs → k.sq X.K H a ys → xs = ys
  | .L, _, _, _, p, q => I.list_inj p q
  | .T, _, _, _, p, q => I.tuple_inj p q
end
open L2 PySem.Spec PyProof.Rows
end Lad
end
section
set_option maxRecDepth 100000
set_option maxHeartbeats 2000000
namespace Lad
open PySem L2
open PySem.W (Frag)
theorem Reps.append {S : Sy} {ρ : Own} {H : Hp} : ∀ {ds es : List Val} {vs us : List V}, Reps S ρ H ds vs → Reps S ρ H es us → Reps S ρ H (ds ++ es) (vs ++ us)
  | _, _, _, _, .nil, q => q
  | _, _, _, _, .cons r t, q => .cons r (Reps.append t q)
end Lad
end
section
set_option maxRecDepth 100000
set_option maxHeartbeats 2000000
namespace Lad
open PySem L2
open PySem.W (Frag)
def lkF : List (Nat × Val) → Nat → Option Val
  | [], _ => none
  | (m, d) :: r, n => if m = n then some d else if m < 100 then lkF r n else none
def noF : List (Nat × Val) → Nat → Bool
  | [], _ => true
  | (m, _) :: r, n => if m = n then false else if m < 100 then noF r n else false
def putN (n : Nat) (d : Val) : List (Nat × Val) → Option (List (Nat × Val))
  | [] => some [(n, d)]
  | (m, x) :: r => if m = n then some ((m, d) :: r) else if m < 100 then (putN n d r).map ((m, x) :: ·) else none
section
variable {T : Tb} {K : Frag} {ex : Option (Addr × Nat × Addr)} {ρ : Own} {H : Hp}
theorem FsR.put {S : Sy} (nk : ∀ m n : Nat, m < 100 → n < 100 → S.nm m = S.nm n → m = n) {n : Nat} (hn : n < 100) {d : Val} {v : V} (rv : Rep S ρ H d v) : ∀ {fs gs : List (Nat × Val)} {vs : List (Str × V)}, FsR S ρ H fs vs → putN n d fs = some gs → FsR S ρ H gs (putF (S.nm n) v vs)
  | _, _, _, .nil, e => by
    cases e
    exact .cons rv .nil
  | _, gs, _, .cons (n := m) (d := d') (v := v') (ds := ds) (vs := vs) r t, e => by
    unfold putN at e
    by_cases hm : m = n
    · subst hm
      rw [if_pos rfl] at e
      cases e
      unfold putF
      rw [if_pos rfl]
      exact .cons rv t
    · rw [if_neg hm] at e
      by_cases hb : m < 100
      · rw [if_pos hb] at e
        cases q : putN n d ds with
        | none => rw [q] at e; cases e
        | some g2 =>
          rw [q] at e
          cases e
          have hne : ¬ S.nm m = S.nm n := fun z => hm (nk m n hb hn z)
          unfold putF
          rw [if_neg hne]
          exact .cons r (FsR.put nk hn rv t q)
      · rw [if_neg hb] at e
        cases e
theorem FsR.length {S : Sy} : ∀ {fs : List (Nat × Val)} {vs : List (Str × V)}, FsR S ρ H fs vs → fs.length = vs.length
  | _, _, .nil => rfl
  | _, _, .cons _ t => by simp [FsR.length t]
end
/-- an instance, to be read -/
def insOf (h : Hea) : Val → Option (Nat × List (Nat × Val))
  | .obj c ns vs => some (c, ns.zip vs)
  | .ref i => match h[i]? with
    | some (.ins c fs) => some (c, fs)
    | _ => none
  | _ => none
theorem FsR.zip {S : Sy} {ρ : Own} {H : Hp} : ∀ {ns : List Nat} {ds : List Val} {ps : List (Str × V)}, ps.map (·.1) = ns.map S.nm → Reps S ρ H ds (ps.map (·.2)) → FsR S ρ H (ns.zip ds) ps
  | [], ds, [], _, r => by cases r; exact .nil
  | [], ds, p :: ps, e, _ => by cases e
  | n :: ns, ds, [], e, _ => by cases e
  | n :: ns, _, p :: ps, e, .cons r t => by
    obtain ⟨x, v⟩ := p
    simp only [List.map_cons, List.cons.injEq] at e
    obtain ⟨rfl, e⟩ := e
    exact .cons r (FsR.zip e t)
/-- e.f -/
def eFld (ok : Nat → Bool) (n : Nat) (f : En → Hea → Res Val) : En → Hea → Res Val := fun e h => (f e h).bind fun o h1 => match insOf h1 o with
  | some (c, fs) => if ok c = true then (match lkF fs n with
    | some d => .ok d h1
    | none => .stuck) else .stuck
  | none => .stuck
end Lad
end
section
set_option maxRecDepth 100000
set_option maxHeartbeats 2000000
namespace Lad
open PySem L2
open PySem.W (Frag)
def eMeth (c n : Nat) (cf : List Val → Hea → Res Val) (f : En → Hea → Res Val) (g : En → Hea → Res (List Val)) : En → Hea → Res Val := fun e h => (f e h).bind fun o h1 => match insOf h1 o with
  | some (c', fs) => if c' = c ∧ noF fs n = true then (g e h1).bind fun ds h2 => cf (o :: ds) h2 else .stuck
  | none => .stuck
end Lad
end
section
set_option maxRecDepth 100000
set_option maxHeartbeats 2000000
namespace Lad
open PySem
open L2 PySem.Spec PyProof.Rows
end Lad
end
section
set_option maxRecDepth 100000
set_option maxHeartbeats 2000000
namespace Lad
open PySem L2
def undE (n : Nat) : En → Bool
  | [] => true
  | none :: e => undE n e
  | some d :: e => d.und n && undE n e
def wipeAll (e : En) : List Nat → En
  | [] => e
  | i :: is => wipeAll (e.set i none) is
/-- the names of dead are forgotten; where nothing held is younger than n, the heap is cut at n -/
def gcN (dead : List Nat) (n : Nat) (e : En) (h : Hea) : En × Hea := match wipeAll e dead with
  | e1 => match (if undE n e1 = true then shut n n h else none) with
    | some g => (e1, g)
    | none => (e1, h)
def forK (gc : En → Hea → En × Hea) (it : Nat → Hea → Option (Option Val)) (b : Val → En → Option En) (body : En → Hea → SRes) : Nat → Nat → En → Hea → SRes
  | 0, _, _, _ => .stuck
  | n + 1, k, e, h => match it k h with
    | some none => .nx e h
    | some (some v) => match b v e with
      | some e1 => match body e1 h with
        | .nx e2 h2 => match gc e2 h2 with | (e3, h3) => forK gc it b body n (k + 1) e3 h3
        | .ct e2 h2 => match gc e2 h2 with | (e3, h3) => forK gc it b body n (k + 1) e3 h3
        | .bk e2 h2 => .nx e2 h2
        | r => r
      | none => .stuck
    | none => .stuck
def forKL (gc : En → Hea → En × Hea) (b : Val → En → Option En) (body : En → Hea → SRes) : List Val → En → Hea → SRes
  | [], e, h => .nx e h
  | v :: vs, e, h => match b v e with
    | some e1 => match body e1 h with
      | .nx e2 h2 => match gc e2 h2 with | (e3, h3) => forKL gc b body vs e3 h3
      | .ct e2 h2 => match gc e2 h2 with | (e3, h3) => forKL gc b body vs e3 h3
      | .bk e2 h2 => .nx e2 h2
      | r => r
    | none => .stuck
theorem forK_fix (gc : En → Hea → En × Hea) (b : Val → En → Option En) (body : En → Hea → SRes) (xs : List Val) : ∀ (m k : Nat) (e : En) (h : Hea), k + m = xs.length + 1 → 0 < m → forK gc (srcFix xs).item b body m k e h = forKL gc b body (xs.drop k) e h := by
  intro m
  induction m with
  | zero => intro k e h hm h0; omega
  | succ m ih =>
    intro k e h hm _
    unfold forK
    rw [fix_item xs (by omega)]
    by_cases hk : k < xs.length
    · rw [List.getElem?_eq_getElem hk, List.drop_eq_getElem_cons hk]
      unfold forKL
      dsimp only
      cases b xs[k] e with
      | none => rfl
      | some e1 =>
        dsimp only
        cases body e1 h with
        | nx e2 h2 => cases gc e2 h2; exact ih (k + 1) _ _ (by omega) (by omega)
        | ct e2 h2 => cases gc e2 h2; exact ih (k + 1) _ _ (by omega) (by omega)
        | _ => rfl
    · rw [List.getElem?_eq_none_iff.mpr (by omega), List.drop_eq_nil_of_le (by omega)]
      rfl
def runForK (gc : En → Hea → En × Hea) (s : Src) (b : Val → En → Option En) (body : En → Hea → SRes) (e : En) (h : Hea) : SRes := match s.fix with
  | some xs => forKL gc b body xs e h
  | none => forK gc s.item b body s.fuel 0 e h
theorem runForK_eq {gc : En → Hea → En × Hea} {s : Src} {b : Val → En → Option En} {body : En → Hea → SRes} {e : En} {h : Hea} : runForK gc s b body e h = forK gc s.item b body s.fuel 0 e h := by
  unfold runForK
  cases hf : s.fix with
  | none => rfl
  | some xs =>
    obtain ⟨e1, e2⟩ := s.ok xs hf
    rw [e1, e2]
    exact (forK_fix gc b body xs (xs.length + 1) 0 e h (by omega) (by omega)).symm
def sForK (dead : List Nat) (src : En → Hea → Res Src) (b : Val → En → Option En) (body : En → Hea → SRes) : En → Hea → SRes := fun e h => ofR (src e h) e fun s h1 => runForK (gcN dead h1.length) s b body e h1
section
variable {S : Sy} {H : Hp} {ρ : Own}
theorem ER.wipeAll : ∀ (is : List Nat) {e : En} {σ : St}, ER S ρ H e σ → ER S ρ H (Lad.wipeAll e is) σ
  | [], _, _, r => r
  | i :: is, _, _, r => ER.wipeAll is (r.weak i)
theorem ER.cut {ρ' : Own} (s : Less ρ ρ') : ∀ {e : En} {σ : St}, undE ρ.nm.length e = true → ER S ρ' H e σ → ER S ρ H e σ
  | _, _, _, .nil => .nil
  | none :: _, _, h, .cons r t => .cons (fun x e => nomatch e) (ER.cut s h t)
  | some d :: _, _, h, .cons r t => by
    simp only [undE, Bool.and_eq_true] at h
    refine .cons (fun x e => ?_) (ER.cut s h.2 t)
    obtain ⟨v, e1, e2⟩ := r x e
    cases e
    exact ⟨v, e1, e2.cut s h.1⟩
theorem gc_ok {ρ1 ρ4 : Own} {H1 H4 : Hp} {h1 h4 : Hea} {e4 : En} {σ4 : St} {dead : List Nat} (R1 : Rel S ρ1 h1 H1) (g : Go S ρ1 H1 ρ4 H4) (R4 : Rel S ρ4 h4 H4) (E4 : ER S ρ4 H4 e4 σ4) :
    ∃ ρ5, Go S ρ1 H1 ρ5 H4 ∧ Rel S ρ5 (gcN dead h1.length e4 h4).2 H4 ∧ ER S ρ5 H4 (gcN dead h1.length e4 h4).1 σ4 := by
  have E5 := ER.wipeAll dead E4
  have hl := R1.len
  unfold gcN
  dsimp only
  split
  · rename_i gg hg
    split at hg
    · rename_i hu
      exact ⟨ρ1, g.drop, R1.cut g.less R4 hg, E5.cut g.less (by rw [← hl]; exact hu)⟩
    · cases hg
  · exact ⟨ρ4, g, R4, E5⟩
end
section
variable {T : Tb} {X : Cx} {W : WX} {tg a : Expr} {src : En → Hea → Res Src} {body : List Stmt} {fb : En → Hea → SRes} {g : TG} {b : Val → En → Option En} {vs : List Nat} {pos : Pos}
theorem st_forK (dead : List Nat) (hp : PassesOwn (model X.prog X.w) X.A X.env X.xe) (hc : X.calm = true) (hi : SI T X W tg a src) (hg : PG X tg g) (ok : GOk (sy T X) vs g b) (hb : SSs T X W body fb) (hs : ∀ x, foldedSetIterable a X.env x = pure x := by intro _; rfl) :
    SSt T X W (.For tg a body [] pos) (sForK dead src b fb) := by
  refine PS.imp (ps_for hp hc hi hg hb hs) fun D σ H q => ?_
  obtain ⟨ρ, e, h, R, E, a⟩ := q
  refine ⟨ρ, e, h, R, E, (a.ofI E).mono fun J H1 ⟨ρ1, d, h1, s, R1, j, E1, a1⟩ => ?_⟩
  have a1 : AftS (sy T X) ρ1 H1 (forK (gcN dead h1.length) d.item b fb d.fuel 0 e h1) D W := by rw [← runForK_eq]; exact a1
  refine ⟨fun k m σ H2 => ∃ ρ2 e2 h2, Go (sy T X) ρ1 H1 ρ2 H2 ∧ Rel (sy T X) ρ2 h2 H2 ∧ ER (sy T X) ρ2 H2 e2 σ ∧ AftS (sy T X) ρ1 H1 (forK (gcN dead h1.length) d.item b fb m k e2 h2) D W, ⟨d.fuel, ρ1, e, h1, .rfl, R1, E1, a1⟩, fun k m σ H2 w => ?_⟩
  obtain ⟨ρ2, e2, h2, g2, R2, E2, a2⟩ := w
  cases m with
  | zero => exact a2.elim
  | succ m =>
    have jk := j ρ2 H2 h2 g2.mv R2 k
    unfold forK at a2
    cases hit : d.item k h2 with
    | none => rw [hit] at a2; exact a2.elim
    | some o =>
      rw [hit] at a2 jk
      cases o with
      | none => exact .inl ⟨jk, a2 ρ2 σ H2 g2 R2 E2⟩
      | some v =>
        refine .inr ⟨jk.1, fun σ' H' => ∃ ρ2 e2 h2, Go (sy T X) ρ1 H1 ρ2 H' ∧ Rel (sy T X) ρ2 h2 H' ∧ ER (sy T X) ρ2 H' e2 σ' ∧ AftS (sy T X) ρ1 H1 (forK (gcN dead h1.length) d.item b fb m (k + 1) e2 h2) D W, fun σ' H' z => ⟨m, Nat.lt_succ_self m, z⟩, fun x H' y => ?_⟩
        obtain ⟨g3, R3, r3⟩ := jk.2 x H' y
        dsimp only at a2
        cases hbv : b v e2 with
        | none => rw [hbv] at a2; exact a2.elim
        | some e3 =>
          rw [hbv] at a2
          refine ok ρ2 H' h2 e2 σ v x e3 _ R3 (E2.go g3) r3 hbv fun σ3 E3 _ => ⟨ρ2, e3, h2, R3, E3, ?_⟩
          have g4 := g2.trans g3
          dsimp only at a2
          revert a2
          cases fb e3 h2 with
          | nx e4 h4 =>
            intro a2 ρ4 σ4 H4 s4 R4 E4
            obtain ⟨ρ5, g5, R5, E5⟩ := gc_ok (dead := dead) R1 (g4.trans s4) R4 E4
            exact ⟨ρ5, _, _, g5, R5, E5, a2⟩
          | ct e4 h4 =>
            intro a2 ρ4 σ4 H4 s4 R4 E4
            obtain ⟨ρ5, g5, R5, E5⟩ := gc_ok (dead := dead) R1 (g4.trans s4) R4 E4
            exact ⟨ρ5, _, _, g5, R5, E5, a2⟩
          | bk e4 h4 => exact fun a2 ρ4 σ4 H4 s4 R4 E4 => a2 ρ4 σ4 H4 (g4.trans s4) R4 E4
          | rt v4 h4 => exact fun a2 => AftS.later (r := .rt v4 h4) a2 g4
          | exc c4 d4 e4 h4 => exact fun a2 => AftS.later (r := .exc c4 d4 e4 h4) a2 g4
          | stuck => exact fun a2 => a2
end
end Lad
end
section
set_option maxRecDepth 100000
set_option maxHeartbeats 2000000
namespace Lad
open PySem L2
def sAug (i : Nat) (o : Int → Int → Int) (f : En → Hea → Res Val) : En → Hea → SRes := fun e h => match e[i]? with
  | some (some (.int x)) => ofR (f e h) e fun d h1 => match d with
    | .int y => .nx (e.set i (some (.int (o x y)))) h1
    | _ => .stuck
  | _ => .stuck
end Lad
end
section
set_option maxRecDepth 100000
set_option maxHeartbeats 2000000
namespace Lad
open PySem PySem.Spec PySem.Calls PyProof.Rows L2
open PySem.W (Frag)
end Lad
end
section
set_option maxRecDepth 100000
set_option maxHeartbeats 2000000
namespace Lad
open PySem PySem.Spec PySem.Calls PyProof.Rows L2
open PySem.W (Frag)
end Lad
end
section
set_option maxRecDepth 100000
set_option maxHeartbeats 2000000
namespace Lad
open PySem L2
open PySem.W (Frag)
def noList (K : Frag) : Bool := K.all fun p => decide (p.2.cls ≠ .type "list")
theorem noList_ok {K : Frag} (h : noList K = true) {a : Addr} {o : Obj} (e : K.lookup a = some o) : o.cls ≠ .type "list" := by
  have m : (a, o) ∈ K := by
    clear h
    induction K with
    | nil => cases e
    | cons p r ih =>
      obtain ⟨b, ob⟩ := p
      rw [List.lookup_cons] at e
      by_cases q : a = b
      · subst q
        simp at e
        subst e
        exact List.mem_cons_self
      · have q2 : (a == b) = false := by simpa using q
        rw [q2] at e
        exact List.mem_cons_of_mem _ (ih e)
  exact of_decide_eq_true (List.all_eq_true.mp h _ m)
/-- the law's promise out of the plain law -/
theorem sp_law {S : Sy} {cf : List Val → Hea → Res Val} {n : Nat} (nl : noList S.K = true) (p : ∀ ns : List Int, ns.length ≤ n → ∃ h, cf [.ref 0] [.fro ns] = .ok (.bl true) h) {H : Hp} {a : Addr} {ns : List Int} (hl : ns.length ≤ n)
    (hO : Only H) (hS : SqL S.K H a (ns.map V.int)) : spEv S cf [.ref a] H (fun v _ => v = .bl true) fun _ _ _ => False := by
  have hz : ∃ o, H a = some (.frz o (.lst (ns.map V.int))) := by
    rcases hS with hR | ⟨o, its, m, lk, hc, _⟩
    · rcases hR with hR | ⟨o, hR⟩
      · rcases hO a with z | ⟨o, xs, z⟩
        · rw [z] at hR; cases hR
        · rw [z] at hR; cases hR
      · exact ⟨o, hR⟩
    · exact absurd hc (noList_ok nl lk)
  obtain ⟨o, hz⟩ := hz
  refine ⟨⟨[a], []⟩, [.fro ns], [.ref 0], ⟨rfl, ?_, ?_, fun _ m => nomatch m⟩, .cons (.ref rfl) .nil, ?_⟩
  · intro i j b e1 e2
    match i, j with
    | 0, 0 => rfl
    | i + 1, _ => simp at e1
    | _, j + 1 => simp at e2
  · intro i ob b e1 e2
    match i with
    | 0 =>
      simp at e1 e2
      subst e1 e2
      exact .fro hz
    | i + 1 => simp at e1
  · obtain ⟨h, e⟩ := p ns hl
    rw [e]
    intro ρ1 v H1 s R1 r
    exact r.bl_
/-- a row's end: what walk_ofE does, for a def that may raise inside -/
theorem walk_W {l : PySem.W.OpenLaw} {n k : Nat} {q : Program} {loose : List Str} {XP : (Str → Option Value) → Heap → Prop} {YP : World → Heap → Prop} {d : DefRec} {x : Str}
    (hn : l.most = some n) (hn2 : n ≤ sizeLine) (hdf : d.params.defaults = []) (hr : Room k callerA)
    (F : ∀ (w : World) (mg : Str → Option Value) (f : Addr) (h : Heap), YP w h → h.Ns mainGlobals mg → mg d.name = some (.ref f) →
      ∃ (K : Frag) (fd : FuncData) (sp : Sp), K.In h ∧ (∀ (s : Shared) (u : Value), BindsTo s fd ⟨[u], []⟩ [(x, u)]) ∧
        (∀ (H : Hp) (a : Addr) (ns : List Int), ns.length ≤ n → Only H → SqL K H a (ns.map V.int) → sp [.ref a] H (fun v _ => v = .bl true) fun _ _ _ => False) ∧
        ∀ base : Heap, K.In base → base.Ns mainGlobals mg → FnOk l.prog w K mg base (L2.CX l.prog w) k f fd [x] sp) :
    PySem.W.WalkO q loose XP YP l.row.toRowW d [] (fun f vs => PySem.call f vs) := by
  refine Att.attach_call hn hdf ?_
  intro w sA sB mg mb f o pm cd doc a vs ns G Y ho hd hcd hmg hobj hints hlen hgn
  have z := F w mg f _ Y G.T.g hmg
  obtain ⟨K, fd, sp, hK, bind, told, keeps⟩ := z
  refine law_call hK G.T.g G.T.b G.T.builtins G.T.nolimit hgn hobj hints (Nat.le_trans hlen hn2) hr keeps bind ?_ ?_
  · exact fun H only sq => told H a ns hlen only sq
  · intro H e s' h
    obtain ⟨_, _, _, _, _, _, _, _, _, _, _, _, z⟩ := h
    exact z.elim
end Lad
end
section
set_option maxRecDepth 100000
set_option maxHeartbeats 2000000
namespace Lad
open PySem PySem.Spec PyProof.Rows L2
abbrev NPs := List (NestedKey × Addr × V)
abbrev NP : NPs → List (NestedKey × Addr × Value) → Prop := Paired fun p q => p.1 = q.1 ∧ p.2.1 = q.2.1 ∧ RelV p.2.2 q.2.2
def valN (ps : NPs) (k : NestedKey) : Option V := (ps.find? fun p => decide (p.1 = k)).map (·.2.2)
def putNk (ps : NPs) (k : NestedKey) (b : Addr) (v : V) : NPs := if (ps.any fun p => decide (p.1 = k)) = true then ps.map (fun p => if p.1 = k then (p.1, p.2.1, v) else p) else ps ++ [(k, b, v)]
def dropNk (ps : NPs) (k : NestedKey) : NPs := ps.filter fun p => decide (p.1 ≠ k)
theorem NP.val {ps : NPs} {xs : List (NestedKey × Addr × Value)} (r : NP ps xs) (k : NestedKey) : RelO (valN ps k) ((atKey xs k).map (·.2)) := by
  induction r with
  | nil => exact True.intro
  | @cons p q ps qs h t ih =>
    obtain ⟨h1, _, h3⟩ := h
    by_cases c : p.1 = k
    · have c' : q.1 = k := h1 ▸ c
      simpa [valN, atKey, List.find?_cons, c, c', RelO] using h3
    · have c' : ¬ q.1 = k := fun z => c (h1 ▸ z)
      simpa [valN, atKey, List.find?_cons, c, c'] using ih
theorem NP.any {ps : NPs} {xs : List (NestedKey × Addr × Value)} (r : NP ps xs) (k : NestedKey) : (ps.any fun p => decide (p.1 = k)) = (atKey xs k).isSome := by
  induction r with
  | nil => rfl
  | @cons p q ps qs h t ih =>
    by_cases c : p.1 = k
    · have c' : q.1 = k := h.1 ▸ c
      simp [atKey, c, c']
    · have c' : ¬ q.1 = k := fun z => c (h.1 ▸ z)
      simpa [atKey, List.find?_cons, c, c'] using ih
theorem NP.repl {ps : NPs} {xs : List (NestedKey × Addr × Value)} (r : NP ps xs) (k : NestedKey) {v : V} {u : Value} (rv : RelV v u) : NP (ps.map fun p => if p.1 = k then (p.1, p.2.1, v) else p) (xs.map (putAt k u)) := by
  induction r with
  | nil => exact .nil
  | @cons p q ps qs h t ih =>
    rw [List.map_cons, List.map_cons]
    refine .cons ?_ ih
    unfold putAt
    by_cases c : p.1 = k
    · rw [if_pos c, if_pos (h.1.symm.trans c)]
      exact ⟨h.1, h.2.1, rv⟩
    · rw [if_neg c, if_neg fun z => c (h.1.trans z)]
      exact h
theorem NP.put {ps : NPs} {xs : List (NestedKey × Addr × Value)} (r : NP ps xs) (k : NestedKey) (b : Addr) {v : V} {u : Value} (rv : RelV v u) : NP (putNk ps k b v) (storedH xs k b u) := by
  unfold putNk storedH
  rw [r.any k]
  split
  · exact r.repl k rv
  · exact Paired.snoc r ⟨rfl, rfl, rv⟩
theorem NP.drop {ps : NPs} {xs : List (NestedKey × Addr × Value)} (r : NP ps xs) (k : NestedKey) : NP (dropNk ps k) (withoutH xs k) := by
  unfold dropNk withoutH
  induction r with
  | nil => exact .nil
  | @cons p q ps qs h t ih =>
    by_cases c : p.1 = k
    · have c' : q.1 = k := h.1 ▸ c
      simpa [List.filter_cons, c, c'] using ih
    · have c' : ¬ q.1 = k := fun z => c (h.1 ▸ z)
      simp only [List.filter_cons, c, c', ne_eq, not_false_eq_true, decide_true, if_true]
      exact .cons h (by simpa [List.filter_cons] using ih)
theorem NP.length {ps : NPs} {xs : List (NestedKey × Addr × Value)} (r : NP ps xs) : ps.length = xs.length := Paired.length r
end Lad
end
section
set_option maxRecDepth 100000
set_option maxHeartbeats 2000000
namespace Lad
open PySem PySem.Spec PyProof.Rows L2
def keyEq : Val → Val → Bool
  | .int a, .int b => decide (a = b)
  | .str a, .str b => decide (a = b)
  | _, _ => false
theorem keyEq_kv (a b : Key) : keyEq (kvK a) (kvK b) = decide (a = b) := by
  cases a <;> cases b <;> simp [keyEq, keyVal]
def hasK : List (Val × Val) → Val → Bool
  | [], _ => false
  | (k, _) :: r, x => keyEq k x || hasK r x
def putKv (x d : Val) (kvs : List (Val × Val)) : List (Val × Val) := if hasK kvs x = true then kvs.map (fun p => if keyEq p.1 x = true then (p.1, d) else p) else kvs ++ [(x, d)]
section
variable {S : Sy} {ρ : Own} {H : Hp}
theorem KvR.has : ∀ {kvs : List (Val × Val)} {ps : List (Key × V)} {k : Key}, KvR S ρ H kvK kvs ps → hasK kvs (kvK k) = ps.any fun kv => decide (kv.1 = k)
  | _, _, k, .nil => rfl
  | _, _, k, .cons r t => by
    unfold hasK
    rw [keyEq_kv, t.has, List.any_cons]
theorem KvR.app : ∀ {kvs : List (Val × Val)} {ps : List (Key × V)} {k : Key} {d : Val} {v : V}, KvR S ρ H kvK kvs ps → Rep S ρ H d v → KvR S ρ H kvK (kvs ++ [(kvK k, d)]) (ps ++ [(k, v)])
  | _, _, k, d, v, .nil, q => .cons q .nil
  | _, _, k, d, v, .cons r t, q => .cons r (t.app q)
theorem KvR.rep : ∀ {kvs : List (Val × Val)} {ps : List (Key × V)} {k : Key} {d : Val} {v : V}, KvR S ρ H kvK kvs ps → Rep S ρ H d v → KvR S ρ H kvK (kvs.map (fun p => if keyEq p.1 (kvK k) = true then (p.1, d) else p)) (ps.map fun kv => if kv.1 = k then (kv.1, v) else kv)
  | _, _, k, d, v, .nil, q => .nil
  | _, _, k, d, v, .cons (k := k') r t, q => by
    rw [List.map_cons, List.map_cons]
    simp only [keyEq_kv]
    by_cases h : k' = k
    · rw [if_pos (decide_eq_true h), if_pos h]
      have := t.rep (k := k) q
      exact .cons q (by simpa only [keyEq_kv] using this)
    · rw [if_neg (by simpa using h), if_neg h]
      have := t.rep (k := k) q
      exact .cons r (by simpa only [keyEq_kv] using this)
theorem KvR.put {kvs : List (Val × Val)} {ps : List (Key × V)} {k : Key} {d : Val} {v : V} (t : KvR S ρ H kvK kvs ps) (q : Rep S ρ H d v) : KvR S ρ H kvK (putKv (kvK k) d kvs) (putK ps k v) := by
  unfold putKv putK
  rw [t.has]
  split
  · exact t.rep q
  · exact t.app q
theorem KvR.length {κ : Type} {kd : κ → Val} : ∀ {kvs : List (Val × Val)} {ps : List (κ × V)}, KvR S ρ H kd kvs ps → kvs.length = ps.length
  | _, _, .nil => rfl
  | _, _, .cons _ t => by simp [t.length]
theorem KvR.zip {κ : Type} {kd : κ → Val} : ∀ {ks ds : List Val} {ps : List (κ × V)}, ks = ps.map (fun p => kd p.1) → Reps S ρ H ds (ps.map (·.2)) → KvR S ρ H kd (ks.zip ds) ps
  | _, _, [], e, r => by subst e; exact .nil
  | _, _, p :: ps, e, r => by
    subst e
    rw [List.map_cons] at r
    cases r with
    | cons q t => exact .cons q (KvR.zip rfl t)
end
def kEq (a b : Val) : Bool := match toNK a, toNK b with
  | some x, some y => NestedKey.beq x y
  | _, _ => false
def hasN : List (Val × Val) → Val → Bool
  | [], _ => false
  | (k, _) :: r, x => kEq k x || hasN r x
def putNv (x d : Val) (kvs : List (Val × Val)) : List (Val × Val) := if hasN kvs x = true then kvs.map (fun p => if kEq p.1 x = true then (p.1, d) else p) else kvs ++ [(x, d)]
theorem kEq_eq {a b : Val} {x y : NestedKey} (e1 : toNK a = some x) (e2 : toNK b = some y) : kEq a b = decide (x = y) := by
  unfold kEq
  rw [e1, e2, NestedKey.decide_eq]
section
variable {S : Sy} {ρ : Own} {H : Hp}
theorem KvN.has {x : Val} {k : NestedKey} (e : toNK x = some k) : ∀ {kvs : List (Val × Val)} {ps : NPs}, KvN S ρ H kvs ps → hasN kvs x = ps.any fun p => decide (p.1 = k)
  | _, _, .nil => rfl
  | _, _, .cons r e' q t => by
    unfold hasN
    rw [kEq_eq e' e, t.has e, List.any_cons]
theorem KvN.app {x d : Val} {k : NestedKey} {b : Addr} {v : V} (rk : Rep S ρ H x (.ref b)) (e : toNK x = some k) (rd : Rep S ρ H d v) : ∀ {kvs : List (Val × Val)} {ps : NPs}, KvN S ρ H kvs ps → KvN S ρ H (kvs ++ [(x, d)]) (ps ++ [(k, b, v)])
  | _, _, .nil => .cons rk e rd .nil
  | _, _, .cons r e' q t => .cons r e' q (t.app rk e rd)
theorem KvN.repl {x d : Val} {k : NestedKey} {v : V} (e : toNK x = some k) (rd : Rep S ρ H d v) : ∀ {kvs : List (Val × Val)} {ps : NPs}, KvN S ρ H kvs ps → KvN S ρ H (kvs.map (fun p => if kEq p.1 x = true then (p.1, d) else p)) (ps.map fun p => if p.1 = k then (p.1, p.2.1, v) else p)
  | _, _, .nil => .nil
  | _, _, .cons (k := k') r e' q t => by
    rw [List.map_cons, List.map_cons]
    dsimp only
    rw [kEq_eq e' e]
    by_cases h : k' = k
    · rw [if_pos (decide_eq_true h), if_pos h]
      exact .cons r e' rd (t.repl e rd)
    · rw [if_neg (by simpa using h), if_neg h]
      exact .cons r e' q (t.repl e rd)
theorem KvN.put {x d : Val} {k : NestedKey} {b : Addr} {v : V} {kvs : List (Val × Val)} {ps : NPs} (t : KvN S ρ H kvs ps) (rk : Rep S ρ H x (.ref b)) (e : toNK x = some k) (rd : Rep S ρ H d v) : KvN S ρ H (putNv x d kvs) (putNk ps k b v) := by
  unfold putNv putNk
  rw [t.has e]
  split
  · exact t.repl e rd
  · exact t.app rk e rd
theorem KvN.length : ∀ {kvs : List (Val × Val)} {ps : NPs}, KvN S ρ H kvs ps → kvs.length = ps.length
  | _, _, .nil => rfl
  | _, _, .cons _ _ _ t => congrArg (· + 1) t.length
end
section
variable {T : Tb} {X : Cx} {W : WX} {a b : Expr} {f1 f2 f3 : En → Hea → Res Val} {pos : Pos}
/-- what a look-up gives -/
def OR (S : Sy) (ρ : Own) (H : Hp) : Option Val → Option V → Prop
  | some d, some v => Rep S ρ H d v
  | none, none => True
  | _, _ => False
theorem OR.some {S : Sy} {ρ : Own} {H : Hp} {d : Val} {o' : Option V} (h : OR S ρ H (.some d) o') : ∃ v, o' = .some v ∧ Rep S ρ H d v := by
  cases o' with
  | none => exact h.elim
  | some v => exact ⟨v, rfl, h⟩
theorem OR.none {S : Sy} {ρ : Own} {H : Hp} {o' : Option V} (h : OR S ρ H .none o') : o' = .none := by
  cases o' with
  | none => rfl
  | some v => exact h.elim
theorem OR.isSome {S : Sy} {ρ : Own} {H : Hp} {o : Option Val} {o' : Option V} (h : OR S ρ H o o') : o'.isSome = o.isSome := by
  cases o with
  | none => rw [h.none]; rfl
  | some d => obtain ⟨v, rfl, _⟩ := h.some; rfl
end
end Lad
end
section
set_option maxRecDepth 100000
set_option maxHeartbeats 2000000
namespace Lad
open PySem L2
end Lad
end
section
set_option maxRecDepth 100000
set_option maxHeartbeats 2000000
namespace Lad
open PySem L2
/-- while the list at D is made -/
structure MkL (S : Sy) (ρ1 : Own) (H1 : Hp) (D : Addr) (ρ : Own) (h : Hea) (acc : List Val) (H : Hp) : Prop where
  z : H1 D = none
  nη : D ∉ ρ1.hd
  hh : ρ.hd = D :: ρ1.hd
  g : Go S ρ1 H1 ⟨ρ.nm, ρ1.hd⟩ H
  R : Rel S ρ h H
  at_ : ∃ us, H D = some (.lst us) ∧ Reps S ρ H acc us
  off : Off ρ D
section
variable {S : Sy} {ρ1 ρ ρ' : Own} {H1 H H' : Hp} {D : Addr} {h h' : Hea} {acc : List Val}
theorem MkL.start (R : Rel S ρ1 h H1) (z : H1 D = none) : MkL S ρ1 H1 D (ρ1.hide D) h [] (upd H1 D (.lst [])) :=
  ⟨z, (R.fz z).2, rfl, .side z, R.hideNew z, ⟨[], upd_same, .nil⟩, fun i q => R.free z q⟩
theorem MkL.mv (m : MkL S ρ1 H1 D ρ h acc H) : Mv S ρ1 H1 ρ H := m.g.mvh m.hh m.z
theorem MkL.go (m : MkL S ρ1 H1 D ρ h acc H) (g : Go S ρ H ρ' H') (R : Rel S ρ' h' H') : MkL S ρ1 H1 D ρ' h' acc H' := by
  obtain ⟨us, hD, rA⟩ := m.at_
  refine ⟨m.z, m.nη, g.hd.trans m.hh, m.g.trans (g.reh m.hh), R, ⟨us, g.lst hD m.off, rA.go g⟩, fun i z => ?_⟩
  rcases g.nw i D z with ⟨j, q⟩ | q
  · exact m.off j q
  · rw [hD] at q; cases q
theorem MkL.add (m : MkL S ρ1 H1 D ρ h acc H) {y : Val} {v : V} (r : Rep S ρ H y v) (hl : acc.length < 16777216) :
    ∃ us, H D = some (.lst us) ∧ us.length < sizeLine ∧ MkL S ρ1 H1 D ρ h (acc ++ [y]) (upd H D (.lst (us ++ [v]))) ∧ Mv S ρ H ρ (upd H D (.lst (us ++ [v]))) := by
  obtain ⟨us, hD, rA⟩ := m.at_
  have mD : D ∈ ρ.hd := by rw [m.hh]; exact List.mem_cons_self
  have mv : Mv S ρ H ρ (upd H D (.lst (us ++ [v]))) := .hid mD hD True.intro
  have rl := rA.length
  exact ⟨us, hD, by rw [sizeLine_eq]; omega, ⟨m.z, m.nη, m.hh, m.g.tmp m.z hD, m.R.off m.off mD hD True.intro, ⟨_, upd_same, (rA.app (.one r)).mono mv⟩, m.off⟩, mv⟩
end
end Lad
end
section
set_option maxRecDepth 100000
set_option maxHeartbeats 2000000
namespace Lad
open PySem L2
end Lad
end
section
set_option maxRecDepth 100000
set_option maxHeartbeats 2000000
namespace Lad
open PySem L2
/-- while the thing at D is hidden -/
structure Hid (S : Sy) (ρ1 : Own) (H1 : Hp) (D : Addr) (o : HO) (ρ : Own) (h : Hea) (H : Hp) : Prop where
  z : H1 D = none
  nη : D ∉ ρ1.hd
  hh : ρ.hd = D :: ρ1.hd
  g : Go S ρ1 H1 ⟨ρ.nm, ρ1.hd⟩ H
  R : Rel S ρ h H
  at_ : H D = some o
  off : Off ρ D
section
variable {S : Sy} {ρ1 ρ ρ' : Own} {H1 H H' : Hp} {D : Addr} {h h' : Hea} {o o' : HO}
theorem Hid.start (R : Rel S ρ1 h H1) (z : H1 D = none) : Hid S ρ1 H1 D o (ρ1.hide D) h (upd H1 D o) :=
  ⟨z, (R.fz z).2, rfl, .side z, R.hideNew z, upd_same, fun i q => R.free z q⟩
theorem Hid.mv (m : Hid S ρ1 H1 D o ρ h H) : Mv S ρ1 H1 ρ H := m.g.mvh m.hh m.z
theorem Hid.go (m : Hid S ρ1 H1 D o ρ h H) (g : Go S ρ H ρ' H') (R : Rel S ρ' h' H') : Hid S ρ1 H1 D o ρ' h' H' := by
  refine ⟨m.z, m.nη, g.hd.trans m.hh, m.g.trans (g.reh m.hh), R, (g.fr D _ m.at_ m.off).2 (by rw [m.hh]; exact List.mem_cons_self), fun i z => ?_⟩
  rcases g.nw i D z with ⟨j, q⟩ | q
  · exact m.off j q
  · rw [m.at_] at q; cases q
/-- it gets what it holds -/
theorem Hid.put (m : Hid S ρ1 H1 D o ρ h H) (c : Ch o) : Hid S ρ1 H1 D o' ρ h (upd H D o') ∧ Mv S ρ H ρ (upd H D o') := by
  have mD : D ∈ ρ.hd := by rw [m.hh]; exact List.mem_cons_self
  refine ⟨⟨m.z, m.nη, m.hh, ?_, m.R.off m.off mD m.at_ c, upd_same, m.off⟩, .hid mD m.at_ c⟩
  exact ⟨m.g.sub, m.g.kp.trans (.put m.at_ c), fun a o q n => by rw [upd_ne (ne_of_none q m.z)]; exact m.g.fr a o q n, m.g.nw, m.g.hd⟩
end
end Lad
end
section
set_option maxRecDepth 100000
set_option maxHeartbeats 2000000
namespace Lad
open PySem L2
/-- the values of keywords -/
abbrev SK (T : Tb) (X : Cx) (W : WX) (kws : List Keyword) (f : En → Hea → Res (List Val)) : Prop := PK X kws (tA (sy T X) W f)
section
variable {T : Tb} {X : Cx} {W : WX} {x : Str} {f : Addr} {fd : FuncData} {ps ks : List Str} {k c n : Nat} {cf : List Val → Hea → Res Val} {e : Expr} {es : List Expr} {kws : List Keyword} {g gk : En → Hea → Res (List Val)} {fe : En → Hea → Res Val} {p pos kpos : Pos} {nm : Option Str} {is : List Nat} {gg : List Value → List Value → List Value}
theorem _root_.L2.PK.imp {t t' : TA} (p : PK X kws t) (h : ∀ σ H Q, t' σ H Q → t σ H Q) : PK X kws t' := ⟨fun pos pins s σ H Q I q => p.run pos pins s σ H Q I (h σ H Q q)⟩
theorem sk_nil : SK T X W [] aNil := pk_nil.imp fun σ H Q q => by
  obtain ⟨ρ, e, h, R, E, a⟩ := q
  exact a ρ [] H .rfl R .nil
theorem sk_cons (ha : SE T X W e fe) (hr : SK T X W kws gk) : SK T X W (⟨nm, e, kpos⟩ :: kws) (aCons fe gk) := (pk_cons ha hr).imp fun σ H Q q => by
  obtain ⟨ρ, e, h, R, E, a⟩ := q
  refine ⟨ρ, e, h, R, E, (AftA.bind1 a).mono fun v H1 ⟨ρ1, d, h1, s, R1, r, a1⟩ => ⟨ρ1, e, h1, R1, E.go s, (AftA.bind2 a1).mono fun vs H2 ⟨ρ2, ds, h2, s2, R2, r2, a2⟩ => ?_⟩⟩
  exact a2 ρ2 (v :: vs) H2 .rfl R2 (.cons (r.go s2) r2)
end
end Lad
end
section
set_option maxRecDepth 100000
set_option maxHeartbeats 2000000
namespace Lad
open PySem L2
end Lad
end
section
set_option maxRecDepth 100000
set_option maxHeartbeats 1000000
namespace L2
open PySem PySem.Spec PyProof.Rows GenW
/-- x: the sleeping generator y, but that it cannot go on -/
def Blind (x y : GenState) : Prop := ∃ k l c p fs cl, x = .suspended (fun _ => .unsupported "") l c p fs cl ∧ y = .suspended k l c p fs cl
section
variable {J : Nat → Bool} {U : Nat → GenState} {s : Shared} {j : Nat} {x : GenState}
theorem get_set_ne {i : Nat} (h : i ≠ j) : (s.setGen j x).gens[i]? = s.gens[i]? := by
  simp only [Shared.setGen, Array.getElem?_setIfInBounds]
  rw [if_neg (Ne.symm h)]
/-- none of the sleepers' own frames -/
def FrOk (J : Nat → Bool) (fs : List Frame) : Prop := ∀ g k l c p, Frame.gen g k l c p ∈ fs → J g = false
/-- the sleepers stand blind; the others have none of their frames -/
structure Bl (J : Nat → Bool) (U : Nat → GenState) (s : Shared) : Prop where
  yes : ∀ j, J j = true → ∃ x, s.gens[j]? = some x ∧ Blind x (U j)
  no : ∀ j k l c p fs cl, J j = false → s.gens[j]? = some (.suspended k l c p fs cl) → FrOk J fs
theorem Bl.same {s' : Shared} (b : Bl J U s) (h : s'.gens = s.gens) : Bl J U s' := ⟨fun j hj => by rw [h]; exact b.yes j hj, fun j k l c p fs cl hj => by rw [h]; exact b.no j k l c p fs cl hj⟩
theorem Bl.fresh (b : Bl J U s) : J s.gens.size = false := by
  cases h : J s.gens.size with
  | false => rfl
  | true =>
    obtain ⟨x, hx, _⟩ := b.yes _ h
    have := (Array.getElem?_eq_some_iff.mp hx).1
    omega
theorem Bl.push {c : Code} (b : Bl J U s) : Bl J U { s with gens := s.gens.push (.fresh c) } := by
  refine ⟨fun j hj => ?_, fun j k l c' p fs cl hj e => ?_⟩
  · obtain ⟨x, hx, r⟩ := b.yes j hj
    refine ⟨x, ?_, r⟩
    have hl := (Array.getElem?_eq_some_iff.mp hx).1
    show (s.gens.push (.fresh c))[j]? = _
    rw [Array.getElem?_push_lt hl]
    exact congrArg some (Array.getElem?_eq_some_iff.mp hx).2
  · have e : (s.gens.push (.fresh c))[j]? = some (.suspended k l c' p fs cl) := e
    rw [Array.getElem?_push] at e
    split at e
    · cases e
    · exact b.no j k l c' p fs cl hj e
theorem Bl.set (b : Bl J U s) (hj : J j = false) (h : ∀ k l c p fs cl, x = .suspended k l c p fs cl → FrOk J fs) : Bl J U (s.setGen j x) := by
  refine ⟨fun i hi => ?_, fun i k l c p fs cl hi e => ?_⟩
  · have ne : i ≠ j := fun z => by rw [z, hj] at hi; cases hi
    rw [get_set_ne ne]
    exact b.yes i hi
  · by_cases ne : i = j
    · subst ne
      simp only [Shared.setGen, Array.getElem?_setIfInBounds, if_true] at e
      split at e
      · cases e; exact h k l c p fs cl rfl
      · cases e
    · rw [get_set_ne ne] at e
      exact b.no i k l c p fs cl hi e
theorem Bl.ne (b : Bl J U s) (hx : s.gens[j]? = some x) (h : ∀ k l c p fs cl, x ≠ .suspended k l c p fs cl) : J j = false := by
  cases hj : J j with
  | false => rfl
  | true =>
    obtain ⟨y, hy, _, _, _, _, _, _, rfl, _⟩ := b.yes j hj
    rw [hx] at hy
    cases hy
    exact absurd rfl (h _ _ _ _ _ _)
end
end L2
end
section
set_option maxRecDepth 100000
set_option maxHeartbeats 1000000
namespace L2
open PySem PySem.Spec PyProof.Rows GenW
open Sem (wp)
def isSus : GenState → Bool
  | .suspended .. => true
  | _ => false
/-- what slept sleeps on -/
def Slp (s s' : Shared) : Prop := ∀ (j : Nat) (x : GenState), s.gens[j]? = some x → isSus x = true → s'.gens[j]? = some x
theorem Slp.refl (s : Shared) : Slp s s := fun _ _ h _ => h
theorem Slp.trans {s s1 s2 : Shared} (a : Slp s s1) (b : Slp s1 s2) : Slp s s2 := fun j x h q => b j x (a j x h q) q
end L2
end
section
set_option maxRecDepth 100000
set_option maxHeartbeats 2000000
namespace Lad
open PySem L2 PySem.Spec PyProof.Rows
abbrev TSu := Addr → Value → Option Addr → TS
/-- the ends with n gone -/
def Ends.less (i : Nat) (D : Ends) : Ends := ⟨fun τ G => D.nx (τ.set i none) G, D.rt, fun τ G => D.bk (τ.set i none) G, fun τ G => D.ct (τ.set i none) G⟩
def wAsM (K : PySem.W.Frag) (i : Nat) (Wo : WX) (D : Ends) : List (Value × TSu) → WX
  | [] => Wo
  | q :: r => fun cl dd τ G => ∃ y, PySem.W.exmOne K cl q.1 = some y ∧ (y = true → ∀ b, G b = none → q.2 b cl dd (Ends.less i D) (τ.set i (some (.ref b))) G) ∧ (y = false → wAsM K i Wo D r cl dd τ G)
inductive Clauses (X : Cx) (n : Str) : List ExceptHandler → List (Value × TSu) → Prop
  | nil : Clauses X n [] []
  | cons {x : Str} {cv : Value} {ts : TSu} {s0 : Stmt} {ss : List Stmt} {p1 p2 : Pos} {hl : List ExceptHandler} {l : List (Value × TSu)} (nc : Names X x cv)
      (su : ∀ (b : Addr) (ob : Obj) (cl : Value) (dd : Option Addr) (pn : List (Addr × Obj)), Zc cl dd ob → (∃ vs, ob.data = .fields vs) → PSs (X.suite b ((b, ob) :: pn)) (s0 :: ss) (ts b cl dd)) (r : Clauses X n hl l) :
      Clauses X n (.ExceptHandler (some (.Name x p1)) (some n) (s0 :: ss) p2 :: hl) ((cv, ts) :: l)
def sTryM (cl : List ((Nat → Option Bool) × (En → Hea → SRes))) (i : Nat) (fb : En → Hea → SRes) : En → Hea → SRes := fun e h => match fb e h with
  | .exc c d e1 h1 => tryMs cl i c d e1 h1
  | r => r
where tryMs : List ((Nat → Option Bool) × (En → Hea → SRes)) → Nat → Nat → Val → En → Hea → SRes
  | [], _, c, d, e1, h1 => .exc c d e1 h1
  | q :: r, i, c, d, e1, h1 => match q.1 c with
    | some true => suiteEnd i h1 (q.2 (e1.set i (some (.exn c d))) h1)
    | some false => tryMs r i c d e1 h1
    | none => .stuck
/-- clauses with their suites derived -/
inductive SCl (T : Tb) (X : Cx) (n : Str) : List ExceptHandler → List ((Nat → Option Bool) × (En → Hea → SRes)) → List Value → Prop
  | nil : SCl T X n [] [] []
  | cons {x : Str} {cv : Value} {sub : Nat → Option Bool} {fs : En → Hea → SRes} {s0 : Stmt} {ss : List Stmt} {p1 p2 : Pos} {hl : List ExceptHandler} {cl : List ((Nat → Option Bool) × (En → Hea → SRes))} {vs : List Value} (nc : Names X x cv)
      (hsub : ∀ c b, sub c = some b → PySem.W.exmOne X.K (.ref (T.ca c)) cv = some b)
      (su : ∀ (a : Addr) (oe : Obj) (c : Nat) (dx : Addr) (pn : List (Addr × Obj)), sub c = some true → Zc (.ref (T.ca c)) (some dx) oe → (∃ vs, oe.data = .fields vs) → SSs (T.at a c dx) (X.suite a ((a, oe) :: pn)) W0 (s0 :: ss) fs)
      (r : SCl T X n hl cl vs) : SCl T X n (.ExceptHandler (some (.Name x p1)) (some n) (s0 :: ss) p2 :: hl) ((sub, fs) :: cl) (cv :: vs)
section
variable {T : Tb} {X : Cx} {W : WX} {n : Str} {i : Nat} {body : List Stmt} {c0 : ExceptHandler} {cs : List ExceptHandler} {pos : Pos} {fb : En → Hea → SRes} {cl : List ((Nat → Option Bool) × (En → Hea → SRes))} {vs : List Value}
def suOf (T : Tb) (X : Cx) (q : (Nat → Option Bool) × (En → Hea → SRes)) : TSu := fun a cls d D σ H => ∃ c dx, q.1 c = some true ∧ cls = .ref (T.ca c) ∧ d = some dx ∧ tS (sy (T.at a c dx) X) W0 q.2 D σ H
theorem SCl.cls {hl : List ExceptHandler} (q : SCl T X n hl cl vs) : Clauses X n hl (vs.zip (cl.map (suOf T X))) := by
  induction q with
  | nil => exact .nil
  | cons nc hsub su r ih =>
    refine .cons nc (fun a oe cls d pn hz hff => ⟨fun pins s σ H D I q => ?_⟩) ih
    obtain ⟨c, dx, hsc, rfl, rfl, q⟩ := q
    exact (su a oe c dx pn hsc hz hff).run pins s σ H D I q
theorem SCl.ok {hl : List ExceptHandler} (hx : T.ex = none) (q : SCl T X n hl cl vs) {D : Ends} {c : Nat} {d : Val} {e1 : En} {h1 : Hea} {ρ : Own} {H : Hp} {v : V} {σ1 : L2.St} {dx : Addr} (R1 : Rel (sy T X) ρ h1 H) (r1 : Rep (sy T X) ρ H d v) (E1 : ER (sy T X) ρ H e1 σ1) (hdx : H dx = some (.xd [(T.fld c, v)]))
    (a : AftS (sy T X) ρ H (sTryM.tryMs cl i c d e1 h1) D W) : wAsM X.K i W D (vs.zip (cl.map (suOf T X))) (.ref (T.ca c)) (some dx) σ1 H := by
  induction q with
  | nil => exact a ρ v σ1 H dx .rfl R1 r1 E1 hdx
  | @cons x cv sub fs s0 ss p1 p2 hl cl vs nc hsub su r ih =>
    unfold sTryM.tryMs at a
    dsimp only at a
    cases hsb : sub c with
    | none => rw [hsb] at a; exact a.elim
    | some b =>
      rw [hsb] at a
      refine ⟨b, hsub c b hsb, fun hb1 ax hax => ?_, fun hb1 => ?_⟩
      · subst hb1
        refine ⟨c, dx, hsb, rfl, rfl, ρ, _, h1, R1.like like_at (R1.no hx), ?_, ends_ok (W := W) hx R1 a⟩
        exact ER.set (S := sy (T.at ax c dx) X) (Rep.exn (S := sy (T.at ax c dx) X) rfl hdx (r1.like like_at (r1.no hx))) i (E1.like like_at (E1.no hx))
      · subst hb1
        exact ih a
end
end Lad
end
section
set_option maxRecDepth 100000
set_option maxHeartbeats 2000000
namespace Lad
open PySem L2
abbrev oeBase : List Value := [.type "OverflowError", .type "ArithmeticError", .type "Exception", .type "BaseException", .type "object"]
end Lad
end
section
set_option maxRecDepth 100000
set_option maxHeartbeats 0
namespace K22
open PySem L2 Lad
def top (i : Nat) : Stmt := PySem.Challenge.pw_liftedladders_k22_errors.main.body.getD i (.Pass ⟨0, 0, 0, 0⟩)
def fldN : Nat → Str
  | 0 => ""
  | 1 => "number"
  | 2 => "part"
  | 3 => "place"
  | 4 => "value"
  | 5 => "index"
  | 6 => "place"
  | 7 => "place"
  | 8 => "part"
  | 9 => "hand"
  | 10 => "index"
  | 11 => "number"
  | 12 => "index"
  | 13 => "index"
  | 14 => "index"
  | 15 => "index"
  | 16 => "key"
  | 17 => "index"
  | 18 => "choice"
  | 19 => "index"
  | 20 => "index"
  | 21 => "name"
  | 22 => "index"
  | 23 => "line"
  | 24 => "place"
  | 25 => "limit"
  | 26 => "name"
  | _ => ""
def caK (K : PySem.W.Frag) : Nat → Addr
  | 0 => He.ga K "LadderError"
  | 1 => He.ga K "BadNumber"
  | 2 => He.ga K "BadBook"
  | 3 => He.ga K "BadPlace"
  | 4 => He.ga K "BadGame"
  | 5 => He.ga K "BadMove"
  | 6 => He.ga K "BadLot"
  | 7 => He.ga K "BadWorths"
  | 8 => He.ga K "BadGoal"
  | 9 => He.ga K "BadHand"
  | 10 => He.ga K "BadHonest"
  | 11 => He.ga K "BadGames"
  | 12 => He.ga K "BadBout"
  | 13 => He.ga K "BadRow"
  | 14 => He.ga K "BadChances"
  | 15 => He.ga K "BadOpponent"
  | 16 => He.ga K "BadPlan"
  | 17 => He.ga K "BadMenu"
  | 18 => He.ga K "BadChoice"
  | 19 => He.ga K "BadWish"
  | 20 => He.ga K "BadTold"
  | 21 => He.ga K "BadName"
  | 22 => He.ga K "BadText"
  | 23 => He.ga K "BadLine"
  | 24 => He.ga K "UnknownPlace"
  | 25 => He.ga K "TooMany"
  | 26 => He.ga K "NothingToUndo"
  | _ => 0
def nms : List Str := (["low", "high", "table", "fresh", "times", "bonus", "places", "last_phase", "parts", "start", "moved", "game", "changed", "own_places", "own_moves", "moves", "own_counts", "at", "total", "can"] : List Str) ++ (["after", "mean", "own_rows", "rows", "%0", "%1", "%2", "%3", "%4", "%5", "%6", "%7", "%8", "%9", "%10", "%11", "%12", "%13", "%14", "%15"] : List Str) ++ (["%16", "%17", "%18", "%19", "%20", "%21", "%22", "%23", "%24", "%25", "%26", "%27", "%28", "%29", "%30", "%31", "%32", "%33", "%34", "%35"] : List Str) ++ (["%36", "%37", "%38", "%39", "%40", "%41", "%42", "%43", "%44", "%45", "%46", "%47", "%48", "%49", "%50", "%51", "%52", "%53", "%54", "%55"] : List Str) ++ (["%56", "%57", "%58", "%59", "%60", "%61", "%62", "%63", "%64", "%65", "%66", "%67", "%68", "%69", "%70", "%71", "%72", "%73", "%74", "%75"] : List Str)
def nmN (i : Nat) : Str := nms.getD i ""
abbrev TT (K : PySem.W.Frag) : Tb := ⟨caK K, nmN, fldN, none⟩
def tE_LadderError_0 : Nat → Option Bool
  | 1 => some true
  | 2 => some true
  | 3 => some true
  | 4 => some true
  | 5 => some true
  | 6 => some true
  | 7 => some true
  | 8 => some true
  | 9 => some true
  | 10 => some true
  | 11 => some true
  | 12 => some true
  | 13 => some true
  | 14 => some true
  | 15 => some true
  | 16 => some true
  | 17 => some true
  | 18 => some true
  | 19 => some true
  | 20 => some true
  | 21 => some true
  | 22 => some true
  | 23 => some true
  | 24 => some false
  | 25 => some false
  | 26 => some false
  | _ => none
def tE_ValueError_1 : Nat → Option Bool
  | 1 => some true
  | 2 => some true
  | 3 => some true
  | 4 => some true
  | 5 => some true
  | 6 => some true
  | 7 => some true
  | 8 => some true
  | 9 => some true
  | 10 => some true
  | 11 => some true
  | 12 => some true
  | 13 => some true
  | 14 => some true
  | 15 => some true
  | 16 => some true
  | 17 => some true
  | 18 => some true
  | 19 => some true
  | 20 => some true
  | 21 => some true
  | 22 => some true
  | 23 => some true
  | 24 => some false
  | 25 => some false
  | 26 => some false
  | _ => none
def tE_BadBook_2 : Nat → Option Bool
  | 3 => some false
  | _ => none
def tE_BadPlace_3 : Nat → Option Bool
  | 2 => some false
  | _ => none
def tE_BadGame_4 : Nat → Option Bool
  | 11 => some false
  | _ => none
def tE_BadBout_5 : Nat → Option Bool
  | 13 => some false
  | _ => none
def tE_BadHand_6 : Nat → Option Bool
  | 10 => some false
  | _ => none
def tE_BadText_7 : Nat → Option Bool
  | 20 => some false
  | _ => none
def tE_KeyError_8 : Nat → Option Bool
  | 24 => some true
  | _ => none
def tE_OverflowError_9 : Nat → Option Bool
  | 25 => some true
  | _ => none
def tE_RuntimeError_10 : Nat → Option Bool
  | 26 => some true
  | _ => none
abbrev e_BadNumber : ErD := ⟨"BadNumber", inClass (top 2) 0, "BadNumber.__init__", "number"⟩
abbrev e_BadBook : ErD := ⟨"BadBook", inClass (top 3) 0, "BadBook.__init__", "part"⟩
abbrev e_BadPlace : ErD := ⟨"BadPlace", inClass (top 4) 0, "BadPlace.__init__", "place"⟩
abbrev e_BadGame : ErD := ⟨"BadGame", inClass (top 5) 0, "BadGame.__init__", "value"⟩
abbrev e_BadMove : ErD := ⟨"BadMove", inClass (top 6) 0, "BadMove.__init__", "index"⟩
abbrev e_BadLot : ErD := ⟨"BadLot", inClass (top 7) 0, "BadLot.__init__", "place"⟩
abbrev e_BadWorths : ErD := ⟨"BadWorths", inClass (top 8) 0, "BadWorths.__init__", "place"⟩
abbrev e_BadGoal : ErD := ⟨"BadGoal", inClass (top 9) 0, "BadGoal.__init__", "part"⟩
abbrev e_BadHand : ErD := ⟨"BadHand", inClass (top 10) 0, "BadHand.__init__", "hand"⟩
abbrev e_BadHonest : ErD := ⟨"BadHonest", inClass (top 11) 0, "BadHonest.__init__", "index"⟩
abbrev e_BadGames : ErD := ⟨"BadGames", inClass (top 12) 0, "BadGames.__init__", "number"⟩
abbrev e_BadBout : ErD := ⟨"BadBout", inClass (top 13) 0, "BadBout.__init__", "index"⟩
abbrev e_BadRow : ErD := ⟨"BadRow", inClass (top 14) 0, "BadRow.__init__", "index"⟩
abbrev e_BadChances : ErD := ⟨"BadChances", inClass (top 15) 0, "BadChances.__init__", "index"⟩
abbrev e_BadOpponent : ErD := ⟨"BadOpponent", inClass (top 16) 0, "BadOpponent.__init__", "index"⟩
abbrev e_BadPlan : ErD := ⟨"BadPlan", inClass (top 17) 0, "BadPlan.__init__", "key"⟩
abbrev e_BadMenu : ErD := ⟨"BadMenu", inClass (top 18) 0, "BadMenu.__init__", "index"⟩
abbrev e_BadChoice : ErD := ⟨"BadChoice", inClass (top 19) 0, "BadChoice.__init__", "choice"⟩
abbrev e_BadWish : ErD := ⟨"BadWish", inClass (top 20) 0, "BadWish.__init__", "index"⟩
abbrev e_BadTold : ErD := ⟨"BadTold", inClass (top 21) 0, "BadTold.__init__", "index"⟩
abbrev e_BadName : ErD := ⟨"BadName", inClass (top 22) 0, "BadName.__init__", "name"⟩
abbrev e_BadText : ErD := ⟨"BadText", inClass (top 23) 0, "BadText.__init__", "index"⟩
abbrev e_BadLine : ErD := ⟨"BadLine", inClass (top 24) 0, "BadLine.__init__", "line"⟩
abbrev e_UnknownPlace : ErD := ⟨"UnknownPlace", inClass (top 25) 0, "UnknownPlace.__init__", "place"⟩
abbrev e_TooMany : ErD := ⟨"TooMany", inClass (top 26) 0, "TooMany.__init__", "limit"⟩
abbrev e_NothingToUndo : ErD := ⟨"NothingToUndo", inClass (top 27) 0, "NothingToUndo.__init__", "name"⟩
abbrev P0 : Program := PySem.Challenge.pw_liftedladders_k22_errors
abbrev d__law_pool : He.DefD := ⟨("_law_pool", none), "_law_pool", "_law_pool", defArgs (top 29), defBody (top 29), defScope (top 29), [], []⟩
abbrev d__law_draw : He.DefD := ⟨("_law_draw", none), "_law_draw", "_law_draw", defArgs (top 30), defBody (top 30), defScope (top 30), [], []⟩
abbrev d__law_kinds_right : He.DefD := ⟨("_law_kinds_right", none), "_law_kinds_right", "_law_kinds_right", defArgs (top 31), defBody (top 31), defScope (top 31), [], []⟩
abbrev d__law_kept_too : He.DefD := ⟨("_law_kept_too", none), "_law_kept_too", "_law_kept_too", defArgs (top 32), defBody (top 32), defScope (top 32), [], []⟩
abbrev d_law : He.DefD := ⟨("law", none), "law", "law", defArgs (top 33), defBody (top 33), defScope (top 33), [], []⟩
def fn : List He.DefD := [d__law_pool, d__law_draw, d__law_kinds_right, d__law_kept_too, d_law]
def er : List ErD := [e_BadNumber, e_BadBook, e_BadPlace, e_BadGame, e_BadMove, e_BadLot, e_BadWorths, e_BadGoal, e_BadHand, e_BadHonest, e_BadGames, e_BadBout, e_BadRow, e_BadChances, e_BadOpponent, e_BadPlan, e_BadMenu, e_BadChoice, e_BadWish, e_BadTold, e_BadName, e_BadText, e_BadLine, e_UnknownPlace, e_TooMany, e_NothingToUndo]
def fa : List Chk := [(He.Fa.free "KeyError").ok,
  (He.Fa.free "OverflowError").ok,
  (He.Fa.free "RuntimeError").ok,
  (He.Fa.free "ValueError").ok,
  (He.Fa.free "abs").ok,
  (He.Fa.free "int").ok,
  (He.Fa.free "isinstance").ok,
  (He.Fa.free "len").ok,
  (He.Fa.free "max").ok,
  (He.Fa.free "min").ok,
  (He.Fa.free "range").ok,
  (He.Fa.free "sum").ok,
  (He.Fa.glo "_law_pool").ok,
  (He.Fa.glo "_law_draw").ok,
  (He.Fa.glo "_law_kinds_right").ok,
  (He.Fa.glo "_law_kept_too").ok,
  (He.Fa.glo "law").ok,
  noList,
  (He.Fa.glo "LadderError").ok,
  (He.Fa.glo "BadNumber").ok,
  (He.Fa.glo "BadBook").ok,
  (He.Fa.glo "BadPlace").ok,
  (He.Fa.glo "BadGame").ok,
  (He.Fa.glo "BadMove").ok,
  (He.Fa.glo "BadLot").ok,
  (He.Fa.glo "BadWorths").ok,
  (He.Fa.glo "BadGoal").ok,
  (He.Fa.glo "BadHand").ok,
  (He.Fa.glo "BadHonest").ok,
  (He.Fa.glo "BadGames").ok,
  (He.Fa.glo "BadBout").ok,
  (He.Fa.glo "BadRow").ok,
  (He.Fa.glo "BadChances").ok,
  (He.Fa.glo "BadOpponent").ok,
  (He.Fa.glo "BadPlan").ok,
  (He.Fa.glo "BadMenu").ok,
  (He.Fa.glo "BadChoice").ok,
  (He.Fa.glo "BadWish").ok,
  (He.Fa.glo "BadTold").ok,
  (He.Fa.glo "BadName").ok,
  (He.Fa.glo "BadText").ok,
  (He.Fa.glo "BadLine").ok,
  (He.Fa.glo "UnknownPlace").ok,
  (He.Fa.glo "TooMany").ok,
  (He.Fa.glo "NothingToUndo").ok,
  (fun K => erB P0.main.file "ValueError" "ValueError.__new__" "ValueError.__init__" He.veBase K e_BadNumber),
  (fun K => excB K (caK K 1)),
  (fun K => eqO (PySem.W.findIn K (.ref (caK K 1)) "number") (some none)),
  (fun K => erB P0.main.file "ValueError" "ValueError.__new__" "ValueError.__init__" He.veBase K e_BadBook),
  (fun K => excB K (caK K 2)),
  (fun K => eqO (PySem.W.findIn K (.ref (caK K 2)) "part") (some none)),
  (fun K => erB P0.main.file "ValueError" "ValueError.__new__" "ValueError.__init__" He.veBase K e_BadPlace),
  (fun K => excB K (caK K 3)),
  (fun K => eqO (PySem.W.findIn K (.ref (caK K 3)) "place") (some none)),
  (fun K => erB P0.main.file "ValueError" "ValueError.__new__" "ValueError.__init__" He.veBase K e_BadGame),
  (fun K => excB K (caK K 4)),
  (fun K => eqO (PySem.W.findIn K (.ref (caK K 4)) "value") (some none)),
  (fun K => erB P0.main.file "ValueError" "ValueError.__new__" "ValueError.__init__" He.veBase K e_BadMove),
  (fun K => excB K (caK K 5)),
  (fun K => eqO (PySem.W.findIn K (.ref (caK K 5)) "index") (some none)),
  (fun K => erB P0.main.file "ValueError" "ValueError.__new__" "ValueError.__init__" He.veBase K e_BadLot),
  (fun K => excB K (caK K 6)),
  (fun K => eqO (PySem.W.findIn K (.ref (caK K 6)) "place") (some none)),
  (fun K => erB P0.main.file "ValueError" "ValueError.__new__" "ValueError.__init__" He.veBase K e_BadWorths),
  (fun K => excB K (caK K 7)),
  (fun K => eqO (PySem.W.findIn K (.ref (caK K 7)) "place") (some none)),
  (fun K => erB P0.main.file "ValueError" "ValueError.__new__" "ValueError.__init__" He.veBase K e_BadGoal),
  (fun K => excB K (caK K 8)),
  (fun K => eqO (PySem.W.findIn K (.ref (caK K 8)) "part") (some none)),
  (fun K => erB P0.main.file "ValueError" "ValueError.__new__" "ValueError.__init__" He.veBase K e_BadHand),
  (fun K => excB K (caK K 9)),
  (fun K => eqO (PySem.W.findIn K (.ref (caK K 9)) "hand") (some none)),
  (fun K => erB P0.main.file "ValueError" "ValueError.__new__" "ValueError.__init__" He.veBase K e_BadHonest),
  (fun K => excB K (caK K 10)),
  (fun K => eqO (PySem.W.findIn K (.ref (caK K 10)) "index") (some none)),
  (fun K => erB P0.main.file "ValueError" "ValueError.__new__" "ValueError.__init__" He.veBase K e_BadGames),
  (fun K => excB K (caK K 11)),
  (fun K => eqO (PySem.W.findIn K (.ref (caK K 11)) "number") (some none)),
  (fun K => erB P0.main.file "ValueError" "ValueError.__new__" "ValueError.__init__" He.veBase K e_BadBout),
  (fun K => excB K (caK K 12)),
  (fun K => eqO (PySem.W.findIn K (.ref (caK K 12)) "index") (some none)),
  (fun K => erB P0.main.file "ValueError" "ValueError.__new__" "ValueError.__init__" He.veBase K e_BadRow),
  (fun K => excB K (caK K 13)),
  (fun K => eqO (PySem.W.findIn K (.ref (caK K 13)) "index") (some none)),
  (fun K => erB P0.main.file "ValueError" "ValueError.__new__" "ValueError.__init__" He.veBase K e_BadChances),
  (fun K => excB K (caK K 14)),
  (fun K => eqO (PySem.W.findIn K (.ref (caK K 14)) "index") (some none)),
  (fun K => erB P0.main.file "ValueError" "ValueError.__new__" "ValueError.__init__" He.veBase K e_BadOpponent),
  (fun K => excB K (caK K 15)),
  (fun K => eqO (PySem.W.findIn K (.ref (caK K 15)) "index") (some none)),
  (fun K => erB P0.main.file "ValueError" "ValueError.__new__" "ValueError.__init__" He.veBase K e_BadPlan),
  (fun K => excB K (caK K 16)),
  (fun K => eqO (PySem.W.findIn K (.ref (caK K 16)) "key") (some none)),
  (fun K => erB P0.main.file "ValueError" "ValueError.__new__" "ValueError.__init__" He.veBase K e_BadMenu),
  (fun K => excB K (caK K 17)),
  (fun K => eqO (PySem.W.findIn K (.ref (caK K 17)) "index") (some none)),
  (fun K => erB P0.main.file "ValueError" "ValueError.__new__" "ValueError.__init__" He.veBase K e_BadChoice),
  (fun K => excB K (caK K 18)),
  (fun K => eqO (PySem.W.findIn K (.ref (caK K 18)) "choice") (some none)),
  (fun K => erB P0.main.file "ValueError" "ValueError.__new__" "ValueError.__init__" He.veBase K e_BadWish),
  (fun K => excB K (caK K 19)),
  (fun K => eqO (PySem.W.findIn K (.ref (caK K 19)) "index") (some none)),
  (fun K => erB P0.main.file "ValueError" "ValueError.__new__" "ValueError.__init__" He.veBase K e_BadTold),
  (fun K => excB K (caK K 20)),
  (fun K => eqO (PySem.W.findIn K (.ref (caK K 20)) "index") (some none)),
  (fun K => erB P0.main.file "ValueError" "ValueError.__new__" "ValueError.__init__" He.veBase K e_BadName),
  (fun K => excB K (caK K 21)),
  (fun K => eqO (PySem.W.findIn K (.ref (caK K 21)) "name") (some none)),
  (fun K => erB P0.main.file "ValueError" "ValueError.__new__" "ValueError.__init__" He.veBase K e_BadText),
  (fun K => excB K (caK K 22)),
  (fun K => eqO (PySem.W.findIn K (.ref (caK K 22)) "index") (some none)),
  (fun K => erB P0.main.file "ValueError" "ValueError.__new__" "ValueError.__init__" He.veBase K e_BadLine),
  (fun K => excB K (caK K 23)),
  (fun K => eqO (PySem.W.findIn K (.ref (caK K 23)) "line") (some none)),
  (fun K => erB P0.main.file "KeyError" "LookupError.__new__" "KeyError.__init__" keBase K e_UnknownPlace),
  (fun K => excB K (caK K 24)),
  (fun K => eqO (PySem.W.findIn K (.ref (caK K 24)) "place") (some none)),
  (fun K => erB P0.main.file "OverflowError" "OverflowError.__new__" "OverflowError.__init__" oeBase K e_TooMany),
  (fun K => excB K (caK K 25)),
  (fun K => eqO (PySem.W.findIn K (.ref (caK K 25)) "limit") (some none)),
  (fun K => erB P0.main.file "RuntimeError" "RuntimeError.__new__" "RuntimeError.__init__" [.type "RuntimeError", .type "Exception", .type "BaseException", .type "object"] K e_NothingToUndo),
  (fun K => excB K (caK K 26)),
  (fun K => eqO (PySem.W.findIn K (.ref (caK K 26)) "name") (some none)),
  (fun K => decide (PySem.W.kitOne K (.ref (caK K 1)) (.ref (caK K 0)) = some true)),
  (fun K => decide (PySem.W.kitOne K (.ref (caK K 1)) (.type "ValueError") = some true)),
  (fun K => decide (PySem.W.kitOne K (.ref (caK K 2)) (.ref (caK K 3)) = some false)),
  (fun K => decide (PySem.W.kitOne K (.ref (caK K 2)) (.ref (caK K 0)) = some true)),
  (fun K => decide (PySem.W.kitOne K (.ref (caK K 2)) (.type "ValueError") = some true)),
  (fun K => decide (PySem.W.kitOne K (.ref (caK K 3)) (.ref (caK K 2)) = some false)),
  (fun K => decide (PySem.W.kitOne K (.ref (caK K 3)) (.ref (caK K 0)) = some true)),
  (fun K => decide (PySem.W.kitOne K (.ref (caK K 3)) (.type "ValueError") = some true)),
  (fun K => decide (PySem.W.kitOne K (.ref (caK K 4)) (.ref (caK K 0)) = some true)),
  (fun K => decide (PySem.W.kitOne K (.ref (caK K 4)) (.type "ValueError") = some true)),
  (fun K => decide (PySem.W.kitOne K (.ref (caK K 5)) (.ref (caK K 0)) = some true)),
  (fun K => decide (PySem.W.kitOne K (.ref (caK K 5)) (.type "ValueError") = some true)),
  (fun K => decide (PySem.W.kitOne K (.ref (caK K 6)) (.ref (caK K 0)) = some true)),
  (fun K => decide (PySem.W.kitOne K (.ref (caK K 6)) (.type "ValueError") = some true)),
  (fun K => decide (PySem.W.kitOne K (.ref (caK K 7)) (.ref (caK K 0)) = some true)),
  (fun K => decide (PySem.W.kitOne K (.ref (caK K 7)) (.type "ValueError") = some true)),
  (fun K => decide (PySem.W.kitOne K (.ref (caK K 8)) (.ref (caK K 0)) = some true)),
  (fun K => decide (PySem.W.kitOne K (.ref (caK K 8)) (.type "ValueError") = some true)),
  (fun K => decide (PySem.W.kitOne K (.ref (caK K 9)) (.ref (caK K 0)) = some true)),
  (fun K => decide (PySem.W.kitOne K (.ref (caK K 9)) (.type "ValueError") = some true)),
  (fun K => decide (PySem.W.kitOne K (.ref (caK K 10)) (.ref (caK K 9)) = some false)),
  (fun K => decide (PySem.W.kitOne K (.ref (caK K 10)) (.ref (caK K 0)) = some true)),
  (fun K => decide (PySem.W.kitOne K (.ref (caK K 10)) (.type "ValueError") = some true)),
  (fun K => decide (PySem.W.kitOne K (.ref (caK K 11)) (.ref (caK K 4)) = some false)),
  (fun K => decide (PySem.W.kitOne K (.ref (caK K 11)) (.ref (caK K 0)) = some true)),
  (fun K => decide (PySem.W.kitOne K (.ref (caK K 11)) (.type "ValueError") = some true)),
  (fun K => decide (PySem.W.kitOne K (.ref (caK K 12)) (.ref (caK K 0)) = some true)),
  (fun K => decide (PySem.W.kitOne K (.ref (caK K 12)) (.type "ValueError") = some true)),
  (fun K => decide (PySem.W.kitOne K (.ref (caK K 13)) (.ref (caK K 12)) = some false)),
  (fun K => decide (PySem.W.kitOne K (.ref (caK K 13)) (.ref (caK K 0)) = some true)),
  (fun K => decide (PySem.W.kitOne K (.ref (caK K 13)) (.type "ValueError") = some true)),
  (fun K => decide (PySem.W.kitOne K (.ref (caK K 14)) (.ref (caK K 0)) = some true)),
  (fun K => decide (PySem.W.kitOne K (.ref (caK K 14)) (.type "ValueError") = some true)),
  (fun K => decide (PySem.W.kitOne K (.ref (caK K 15)) (.ref (caK K 0)) = some true)),
  (fun K => decide (PySem.W.kitOne K (.ref (caK K 15)) (.type "ValueError") = some true)),
  (fun K => decide (PySem.W.kitOne K (.ref (caK K 16)) (.ref (caK K 0)) = some true)),
  (fun K => decide (PySem.W.kitOne K (.ref (caK K 16)) (.type "ValueError") = some true)),
  (fun K => decide (PySem.W.kitOne K (.ref (caK K 17)) (.ref (caK K 0)) = some true)),
  (fun K => decide (PySem.W.kitOne K (.ref (caK K 17)) (.type "ValueError") = some true)),
  (fun K => decide (PySem.W.kitOne K (.ref (caK K 18)) (.ref (caK K 0)) = some true)),
  (fun K => decide (PySem.W.kitOne K (.ref (caK K 18)) (.type "ValueError") = some true)),
  (fun K => decide (PySem.W.kitOne K (.ref (caK K 19)) (.ref (caK K 0)) = some true)),
  (fun K => decide (PySem.W.kitOne K (.ref (caK K 19)) (.type "ValueError") = some true)),
  (fun K => decide (PySem.W.kitOne K (.ref (caK K 20)) (.ref (caK K 22)) = some false)),
  (fun K => decide (PySem.W.kitOne K (.ref (caK K 20)) (.ref (caK K 0)) = some true)),
  (fun K => decide (PySem.W.kitOne K (.ref (caK K 20)) (.type "ValueError") = some true)),
  (fun K => decide (PySem.W.kitOne K (.ref (caK K 21)) (.ref (caK K 0)) = some true)),
  (fun K => decide (PySem.W.kitOne K (.ref (caK K 21)) (.type "ValueError") = some true)),
  (fun K => decide (PySem.W.kitOne K (.ref (caK K 22)) (.ref (caK K 0)) = some true)),
  (fun K => decide (PySem.W.kitOne K (.ref (caK K 22)) (.type "ValueError") = some true)),
  (fun K => decide (PySem.W.kitOne K (.ref (caK K 23)) (.ref (caK K 0)) = some true)),
  (fun K => decide (PySem.W.kitOne K (.ref (caK K 23)) (.type "ValueError") = some true)),
  (fun K => decide (PySem.W.kitOne K (.ref (caK K 24)) (.type "KeyError") = some true)),
  (fun K => decide (PySem.W.kitOne K (.ref (caK K 24)) (.ref (caK K 0)) = some false)),
  (fun K => decide (PySem.W.kitOne K (.ref (caK K 24)) (.type "ValueError") = some false)),
  (fun K => decide (PySem.W.kitOne K (.ref (caK K 25)) (.ref (caK K 0)) = some false)),
  (fun K => decide (PySem.W.kitOne K (.ref (caK K 25)) (.type "OverflowError") = some true)),
  (fun K => decide (PySem.W.kitOne K (.ref (caK K 25)) (.type "ValueError") = some false)),
  (fun K => decide (PySem.W.kitOne K (.ref (caK K 26)) (.ref (caK K 0)) = some false)),
  (fun K => decide (PySem.W.kitOne K (.ref (caK K 26)) (.type "RuntimeError") = some true)),
  (fun K => decide (PySem.W.kitOne K (.ref (caK K 26)) (.type "ValueError") = some false))]
def ads : List Addr := [3, 2, 24, 46, 67, 88, 109, 130, 151, 172, 193, 214, 235, 256, 277, 298, 319, 340, 361, 382, 403, 424, 445, 466, 487, 508, 529, 551, 573, 583, 590, 597, 604, 611, 23, 45, 66, 87, 108, 129, 150, 171, 192, 213, 234, 255, 276, 297, 318, 339, 360, 381, 402, 423, 444, 465, 486, 507, 528, 550, 572, 582, 589, 596, 603, 610, 43, 64, 85, 106, 127, 148, 169, 190, 211, 232, 253, 274, 295, 316, 337, 358, 379, 400, 421, 442, 463, 484, 505, 526, 548, 570, 42, 31, 63, 52, 84, 73, 105, 94, 126, 115, 147, 136, 168, 157, 189, 178, 210, 199, 231, 220, 252, 241, 273, 262, 294, 283, 315, 304, 336, 325, 357, 346, 378, 367, 399, 388, 420, 409, 441, 430, 462, 451, 483, 472, 504, 493, 525, 514, 547, 536, 569, 558]
abbrev R : PySem.W.OpenRow := PySem.W.OpenLaw.row PySem.Challenge.rw_liftedladders_k22_errors
abbrev hk : PySem.W.Hook := hookLX ads fa fn er
def ob (s : PySem.W.SharedT) : AlL := obsLX ads fa fn er (HandSHeadRun.getT s)
theorem ob_eq (s : PySem.W.SharedT) : ob s = hk.obs s.abs := obsLX_eq (HandSHeadRun.getT_eq s)
def loose : List Str := (["_law_pool", "_law_draw", "_law_kinds_right", "_law_kept_too", "LadderError", "BadNumber", "BadBook", "BadPlace", "BadGame", "BadMove", "BadLot", "BadWorths", "BadGoal", "BadHand", "BadHonest", "BadGames", "BadBout", "BadRow", "BadChances", "BadOpponent", "BadPlan", "BadMenu", "BadChoice", "BadWish", "BadTold", "BadName", "BadText", "BadLine", "UnknownPlace", "TooMany"] : List Str) ++ (["NothingToUndo"] : List Str)
theorem three {a b c d : Type} {r : Option a} {f : a → b} {g : a → c} {h : a → d} {x : b} {y : c} {z : d} (h1 : r.map f = some x) (h2 : r.map g = some y) (h3 : r.map h = some z) : r.map (fun s => (f s, g s, h s)) = some (x, y, z) := by
  cases r with
  | none => cases h1
  | some s =>
    simp only [Option.map_some, Option.some.injEq] at h1 h2 h3 ⊢
    rw [h1, h2, h3]
theorem run1 (w : World) (os : OsState) : Option.map (fun s => HandSHeadRun.looksF R.prog (PySem.W.boot_heap w.params) s.abs) (HandSHeadRun.endF (HandSHeadRun.stepQ (HandSHeadRun.denQ HandSHeadRun.tabQ) R.prog w) 8000 R.prog w os) = some true := by
  kernel_rfl
theorem run2 (w : World) (os : OsState) : Option.map (fun s => HandSHeadRun.seenQ (PySem.W.view R.prog [33]) loose (PySem.importedModules R.prog.main.body) (fun s => PySem.W.xlAt (PySem.W.view R.prog [33]) [] s && PySem.W.recOk R.records s) s.abs) (HandSHeadRun.endF (HandSHeadRun.stepQ (HandSHeadRun.denQ HandSHeadRun.tabQ) R.prog w) 8000 R.prog w os) = some (PySem.W.openGood (PySem.W.view R.prog [33]) loose) := by
  kernel_rfl
theorem run3 (w : World) (os : OsState) : Option.map (fun s => ob s) (HandSHeadRun.endF (HandSHeadRun.stepQ (HandSHeadRun.denQ HandSHeadRun.tabQ) R.prog w) 8000 R.prog w os) = some (hk.val w) := by
  kernel_rfl
theorem run (w : World) : HandSHeadRun.RunEq R (PySem.W.view R.prog [33]) hk ob 8000 loose w := fun os => three (run1 w os) (run2 w os) (run3 w os)
end K22
end
section
set_option maxRecDepth 100000
set_option maxHeartbeats 2000000
namespace Lad
open PySem PySem.Spec PyProof.Rows L2
end Lad
end
section
set_option maxRecDepth 100000
set_option maxHeartbeats 2000000
namespace Lad
open PySem PySem.Spec PyProof.Rows L2
end Lad
end
section
set_option maxRecDepth 100000
set_option maxHeartbeats 2000000
namespace Lad
open PySem PySem.Spec PyProof.Rows L2
end Lad
end
section
set_option maxRecDepth 100000
set_option maxHeartbeats 2000000
namespace Lad
open PySem L2
end Lad
end
section
set_option maxRecDepth 100000
set_option maxHeartbeats 1000000
namespace L2
open PySem PySem.Spec PyProof.Rows GenW
end L2
end
section
set_option maxRecDepth 100000
set_option maxHeartbeats 2000000
namespace Lad
open PySem L2
inductive GRes where
  | nx (ys : List Val) (e : En) (h : Hea) | rt (ys : List Val) (h : Hea) | bk (ys : List Val) (e : En) (h : Hea) | ct (ys : List Val) (e : En) (h : Hea) | exc (c : Nat) (d : Val) (e : En) (h : Hea) | stuck
def AftG (S : Sy) (ρ : Own) (H : Hp) (r : GRes) (D : GEnds) (W : WX) : Prop := match r with
  | .nx ys e h => ∀ ρ' σ' H' us, Go S ρ H ρ' H' → Rel S ρ' h H' → ER S ρ' H' e σ' → Reps S ρ' H' ys us → D.nx us σ' H'
  | .bk ys e h => ∀ ρ' σ' H' us, Go S ρ H ρ' H' → Rel S ρ' h H' → ER S ρ' H' e σ' → Reps S ρ' H' ys us → D.bk us σ' H'
  | .ct ys e h => ∀ ρ' σ' H' us, Go S ρ H ρ' H' → Rel S ρ' h H' → ER S ρ' H' e σ' → Reps S ρ' H' ys us → D.ct us σ' H'
  | .rt ys h => ∀ ρ' H' us, Go S ρ H ρ' H' → Rel S ρ' h H' → Reps S ρ' H' ys us → D.rt us .non H'
  | .exc c d e h => ∀ ρ' v σ' H' dx, Go S ρ H ρ' H' → Rel S ρ' h H' → Rep S ρ' H' d v → ER S ρ' H' e σ' → H' dx = some (.xd [(S.fld c, v)]) → W (.ref (S.ca c)) (some dx) σ' H'
  | .stuck => False
theorem AftG.later {S : Sy} {ρ ρ1 : Own} {H H1 : Hp} {r : GRes} {D : GEnds} {W : WX} (a : AftG S ρ H r D W) (s : Go S ρ H ρ1 H1) : AftG S ρ1 H1 r D W := by
  cases r with
  | nx ys e h => exact fun ρ' σ' H' us g => a ρ' σ' H' us (s.trans g)
  | bk ys e h => exact fun ρ' σ' H' us g => a ρ' σ' H' us (s.trans g)
  | ct ys e h => exact fun ρ' σ' H' us g => a ρ' σ' H' us (s.trans g)
  | rt ys h => exact fun ρ' H' us g => a ρ' H' us (s.trans g)
  | exc c d e h => exact fun ρ' v σ' H' dx g => a ρ' v σ' H' dx (s.trans g)
  | stuck => exact a
theorem _root_.L2.GS.imp {X : Cx} {st : Stmt} {t t' : TGn} (p : GS X st t) (i : ∀ D ys σ H, t' D ys σ H → t D ys σ H) : GS X st t' :=
  ⟨fun A S ip R n ys s₀ c fs K J gd lv s σ H D g hn k hI ht => p.run A S ip R n ys s₀ c fs K J gd lv s σ H D g hn k hI (i D ys σ H ht)⟩
theorem _root_.L2.GSs.imp {X : Cx} {st : List Stmt} {t t' : TGn} (p : GSs X st t) (i : ∀ D ys σ H, t' D ys σ H → t D ys σ H) : GSs X st t' :=
  ⟨fun A S ip R n ys s₀ c fs K J gd lv s σ H D g hn k hI ht => p.run A S ip R n ys s₀ c fs K J gd lv s σ H D g hn k hI (i D ys σ H ht)⟩
def ofG {α : Type} (r : Res α) (e : En) (k : α → Hea → GRes) : GRes := match r with
  | .ok a h => k a h
  | .exc c d h => .exc c d e h
  | .stuck => .stuck
section
variable {S : Sy} {W : WX} {H : Hp} {D : GEnds} {ρ : Own} {σ : St} {e : En}
theorem AftG.ofR {r : Res Val} {k : Val → Hea → GRes} (a : AftG S ρ H (ofG r e k) D W) (E : ER S ρ H e σ) :
    Aft S ρ H r (fun v H1 => ∃ ρ1 d h1, Go S ρ H ρ1 H1 ∧ Rel S ρ1 h1 H1 ∧ Rep S ρ1 H1 d v ∧ ER S ρ1 H1 e σ ∧ AftG S ρ1 H1 (k d h1) D W) (fun c d H' => W c d σ H') := by
  cases r with
  | ok d h => exact fun ρ1 v H1 s R r => ⟨ρ1, d, h, s, R, r, E.go s, AftG.later (r := k d h) a s⟩
  | exc c d h => exact fun ρ1 v H1 dx s R r x => a ρ1 v σ H1 dx s R r (E.go s) x
  | stuck => exact a
theorem AftG.ofI {r : Res Src} {k : Src → Hea → GRes} (a : AftG S ρ H (ofG r e k) D W) (E : ER S ρ H e σ) :
    AftI S ρ H r (fun J H1 => ∃ ρ1 d h1, Go S ρ H ρ1 H1 ∧ Rel S ρ1 h1 H1 ∧ JOk S ρ1 H1 J d.item ∧ ER S ρ1 H1 e σ ∧ AftG S ρ1 H1 (k d h1) D W) (fun c d H' => W c d σ H') := by
  cases r with
  | ok d h => exact fun ρ1 H1 J s R r => ⟨ρ1, d, h, s, R, r, E.go s, AftG.later (r := k d h) a s⟩
  | exc c d h => exact fun ρ1 v H1 dx s R r x => a ρ1 v σ H1 dx s R r (E.go s) x
  | stuck => exact a
end
end Lad
end
section
set_option maxRecDepth 100000
set_option maxHeartbeats 2000000
namespace Lad
open PySem
open L2
end Lad
end
section
set_option maxRecDepth 100000
set_option maxHeartbeats 2000000
namespace Lad
open PySem L2
end Lad
end
section
set_option maxRecDepth 100000
set_option maxHeartbeats 1000000
namespace Lad
open PySem L2
def eCall0 (cf : List Val → Hea → Res Val) : En → Hea → Res Val := fun _ h => cf [] h
section
variable {T : Tb} {X : Cx} {W : WX} {x : Str} {f : Addr} {fd : FuncData} {k : Nat} {cf : List Val → Hea → Res Val} {p pos : Pos}
theorem se_call0 (F : FnOk X.prog X.w X.K X.mg X.base (L2.CX X.prog X.w) k f fd [] (spEv (sy T X) cf)) (hr : Room k X.A) (hg : Gl X x) (hm : X.mg x = some (.ref f)) (hk : PySem.W.keepIn X.K (.ref f) = true) (hb : Binds X.K fd [] []) (tk : Takes X W) (hdb : (x == ("__debug__" : Str)) = false := by decide) :
    SE T X W (.Call (.Name x p) [] [] pos) (eCall0 cf) := by
  refine ⟨fun pins s σ H Q I q => ?_⟩
  obtain ⟨ρ, e, h, R, E, a⟩ := q
  refine wpAny_Call_Name_kw (ld_glob I hg hm ?_ hdb)
  refine PySem.W.callWith_K0 I.kIn hk ?_
  exact run_fnS (E := fun σ => WE W σ) (us := []) (vs := []) F hr hb (passAt tk σ) I .nil ⟨ρ, h, [], R, .nil, a⟩
end
end Lad
end
section
set_option maxRecDepth 100000
set_option maxHeartbeats 1000000
namespace Lad
open PySem L2
end Lad
end
section
set_option maxRecDepth 100000
set_option maxHeartbeats 1000000
namespace Lad
open PySem L2
end Lad
end
section
set_option maxRecDepth 100000
set_option maxHeartbeats 2000000
namespace Lad
open PySem L2
end Lad
end
section
set_option maxRecDepth 100000
set_option maxHeartbeats 2000000
namespace Lad
open PySem L2
theorem Aft.lst {S : Sy} {H : Hp} {ρ : Own} {h : Hea} {xs : List Val} {vs : List V} {Q : VK} {W : XK} (a : Aft S ρ H (.ok (.lst xs) h) Q W) (R : Rel S ρ h H) (r : Reps S ρ H xs vs) (p : Addr) (n : H p = none) : Q (.ref p) (upd H p (.lst vs)) :=
  a ρ (.ref p) _ (.side n) (R.side n) (.lst (R.fz n) upd_same (r.mono (.side n)))
end Lad
end
section
set_option maxRecDepth 100000
set_option maxHeartbeats 1000000
namespace Lad
open PySem L2
end Lad
end
section
set_option maxRecDepth 100000
set_option maxHeartbeats 1000000
namespace Lad
open PySem L2
end Lad
end
section
set_option maxRecDepth 100000
namespace Lad
open PySem L2
end Lad
end
section
set_option maxRecDepth 100000
namespace Lad
open PySem L2
end Lad
end
section
set_option maxRecDepth 100000
set_option maxHeartbeats 2000000
namespace L2
open PySem PySem.Spec PyProof.Rows
end L2
namespace Lad
open PySem L2
end Lad
end
section
set_option maxRecDepth 100000
set_option maxHeartbeats 2000000
namespace Lad
open PySem L2 PySem.Spec PyProof.Rows
end Lad
end
section
set_option maxRecDepth 100000
set_option maxHeartbeats 2000000
namespace Lad
open PySem PySem.Spec PyProof.Rows L2
end Lad
end
section
set_option maxRecDepth 100000
set_option maxHeartbeats 2000000
namespace Lad
open PySem PySem.Spec PyProof.Rows L2
end Lad
end
section
set_option maxRecDepth 100000
set_option maxHeartbeats 2000000
namespace Lad
open PySem PySem.Spec PyProof.Rows L2
end Lad
end
section
set_option maxRecDepth 100000
set_option maxHeartbeats 2000000
namespace Lad
open PySem PySem.Spec PyProof.Rows L2
open PySem.W (Frag)
end Lad
end
section
namespace Lad
open PySem L2
end Lad
end
section
set_option maxRecDepth 100000
set_option maxHeartbeats 1000000
namespace Lad
open PySem L2
end Lad
end
section
set_option maxRecDepth 100000
set_option maxHeartbeats 2000000
namespace Lad
open PySem PySem.W PySem.Calls PySem.HandSPX
section
variable {prog : Program} {w : World} {A : Around} {E : Value → Shared → Prop} {R : Result → Shared → Prop} {hp : Heap} {g : Array GenState} {dr : Drawn} {tk : Nat} {os : OsState}
variable {nm qn : Str} {C N : Addr} {bs bm bmN : List Value} {hdct : Bool} {sn : List Str} {sub : List Value} {ab : Bool} {col : Option Bool} {dd : Option Addr} {k0 k1 k2 k3 k5 : Option Value} {Bn nwId inN : String}
theorem madeK_new (F : ExcBaseFacts Bn nwId inN bmN) (hB : bm.contains (.type Bn) = true) (nA : bm.contains (.type "AttributeError") = false) (nN : bm.contains (.type "NameError") = false) {kn : Str} {kv : Value} (oC : ClsO hp nm qn C N bs bm hdct sn sub ab col dd k0 k1 k2 k3 k5 nwId)
    (q : R (.ok (.ret (.ref (hp.objs.size + 1)))) ⟨(hp.push (kdv_tup [])).push (excO C hp.objs.size), g, dr, tk, os⟩)  : codeAny (model prog w) A (.builtin nwId ⟨[.ref C], [(kn, kv)]⟩) R ⟨hp, g, dr, tk, os⟩ := by
  have z := F.ends
  refine codeAny_builtinAt F.entry (wpAt_bind ?_)
  refine wpAt_bind (wpAt_stack fun _ _ => wpAt_of_wpAny ?_)
  wp_walk
  refine wpAt_of_wpAny ?_
  rw [F.owner]
  wp_walk using wpAny_madeHere_exc F.canon oC, wpAny_loadPart_at oC, under oC hB, under oC nA, under oC nN
  all_goals (show R _ _; rw [Heap.size_push]; exact q)
theorem madeK_type (F : ExcBaseFacts Bn nwId inN bmN) (hB : bm.contains (.type Bn) = true) (nA : bm.contains (.type "AttributeError") = false) (nN : bm.contains (.type "NameError") = false) {kn : Str} {kv : Value} {fI : Addr} {Q : Fin → Shared → Prop} (oC : ClsO hp nm qn C N bs bm hdct sn sub ab col dd k0 k1 k2 k3 k5 nwId)
    (li : Looks (model prog w) hp (typeLookup (.ref C) "__init__") (some (.ref fI))) (lb : ∀ self, Looks (model prog w) hp (bindSpecial (.ref fI) self) (.ref fI, [self])) 
    (q : codeAny (model prog w) A (.call (.ref fI) ⟨[.ref (hp.objs.size + 1)], [(kn, kv)]⟩) (fun r s' => match r with | .ok (.ret v) => v = .none ∧ Q (.done (.ret (.ref (hp.objs.size + 1)))) s' | .ok _ => False | .error e => E e s') ⟨(hp.push (kdv_tup [])).push (excO C hp.objs.size), g, dr, tk, os⟩) :
    wpAny (model prog w) A (Builtin.«type.__call__» ⟨[.ref C], [(kn, kv)]⟩) Q E ⟨hp, g, dr, tk, os⟩ := by
  wp_walk using wpAny_loadPart_at oC, wpAny_madeBy_exc oC
  refine codeAny_call_builtin_code (Code.quiet_builtin _ F.quiet) ?_
  have z := F.noStar
  simp only [checkBuiltinCall, F.newKind, F.newSplit, F.newRow]
  wp_walk using wpAny_loadPart_at oC, under oC hB, wpAny_staticBase_exc oC, wpAny_madeBy_exc oC
  refine madeK_new F hB nA nN oC ?_
  have kp : ∀ b o, hp.get? b = some o → ((hp.push (kdv_tup [])).push (excO C hp.objs.size)).get? b = some o := fun b o e => Heap.get?_push_of_some _ (Heap.get?_push_of_some _ e)
  have oE : ((hp.push (kdv_tup [])).push (excO C hp.objs.size)).get? (hp.objs.size + 1) = some (excO C hp.objs.size) := by heap_get
  have self : ∀ {Q : Bool → Shared → Prop}, Q true ⟨(hp.push (kdv_tup [])).push (excO C hp.objs.size), g, dr, tk, os⟩ → wpAny (model prog w) A (isSubtype (.ref C) (.ref C)) Q E ⟨(hp.push (kdv_tup [])).push (excO C hp.objs.size), g, dr, tk, os⟩ := fun h => wpAny_isSubtype_exc (kp _ _ oC) (by
    rw [show (Value.ref C :: bm).contains (.ref C) = true by simp]; exact h)
  show wpAny _ _ _ _ _ _
  wp_walk using wpAny_loadPart_at oE, self
  refine (li.keeps kp).at (wpAny_holding (wpAny_bind (((lb _).keeps kp).at (wpAny_bind (wpAny_call (codeAny_mono q ?_))))))
  rintro (e | (v | _ | _ | _)) s' h
  · exact h
  · exact h.elim
  · exact h.elim
  · exact h.elim
  · obtain ⟨rfl, h⟩ := h
    wp_walk
    exact h
theorem madeK_call (F : ExcBaseFacts Bn nwId inN bmN) (hB : bm.contains (.type Bn) = true) (nA : bm.contains (.type "AttributeError") = false) (nN : bm.contains (.type "NameError") = false) {kn : Str} {kv : Value} {fI : Addr} (oC : ClsO hp nm qn C N bs bm hdct sn sub ab col dd k0 k1 k2 k3 k5 nwId)
    (li : Looks (model prog w) hp (typeLookup (.ref C) "__init__") (some (.ref fI))) (lb : ∀ self, Looks (model prog w) hp (bindSpecial (.ref fI) self) (.ref fI, [self])) 
    (q : codeAny (model prog w) (A.under (.builtin "type.__call__" ⟨[.ref C], [(kn, kv)]⟩)) (.call (.ref fI) ⟨[.ref (hp.objs.size + 1)], [(kn, kv)]⟩) (InitBack (hp.objs.size + 1) R) ⟨(hp.push (kdv_tup [])).push (excO C hp.objs.size), g, dr, tk, os⟩) :
    codeAny (model prog w) A (.call (.ref C) ⟨[], [(kn, kv)]⟩) R ⟨hp, g, dr, tk, os⟩ := by
  have f1 := tc_lookup
  have f2 := tc_bind (.ref C)
  have ty : (⟨hp, g, dr, tk, os⟩ : Shared).TypeIs (.ref C) "type" := ⟨_, oC, rfl⟩
  refine codeAny_of_tree ?_
  show wpAny _ _ (callAny (.ref C) _) _ _ _
  wp_walk using wpAny_loadPart_at oC
  refine ⟨rfl, codeAny_call_builtin_at (Code.quiet_builtin _ (by decide +kernel)) entry_typeCall (wpAny_check_type_call_sub oC (madeK_type F hB nA nN oC li lb (codeAny_mono q ?_)))⟩
  rintro (e | (v | _ | _ | _)) s' h <;> exact h
end
end Lad
namespace Lad
open PySem PySem.W PySem.Calls PyProof.Rows PySem.HandSPX
open L2 (defArgs defBody defScope)
section
variable {P : Program} {w : World} {A : Around} {E : Value → Shared → Prop} {R : Result → Shared → Prop} {s : Shared} {K : Frag} {mg : Str → Option Value} {st : Stmt} {C fI cc cda : Addr} {fd : FuncData} {B newId initId : String} {bmB : List Value} {fld : Str}
theorem xcK_init (kb : ∀ (s : Shared) (x : Addr) (v : Value), BindsTo s fd ⟨[.ref x], [(fld, v)]⟩ [("self", .ref x), (fld, v)]) (T : ExTxt P K st C fI cc cda fd B newId initId bmB fld) {x t0 : Addr} {v : Value} (X : K.In s.heap) (hg : s.heap.Ns mainGlobals mg) (hbt : ∃ mb, s.heap.Ns builtinsNs mb ∧ ∀ x : Str, x ≠ "__name__" → mb x = bootBuiltins x) (hlim : s.heap.NoLimit)
    (hx : s.heap.get? x = some (excObj C t0 none .none)) (hnx : K.lookup x = none) (hroom : A.depth < recursionLimit)
    (hq : ∀ h' tk dx t1, XInit s.heap h' x C dx t1 fld v → R (.ok (.ret .none)) { s with heap := h', toks := tk }) :
    codeAny (model P w) A (.call (.ref fI) ⟨[.ref x], [(fld, v)]⟩) R s := by
  obtain ⟨qual, oc, dV, kV, doc, pm, ct, od, an, osl, rfl, hfI, hcd⟩ := T.fn
  obtain ⟨ccl, cdd, vs, ccs, file, tf, hcode, hvs, hfile⟩ := T.code
  obtain ⟨cl, cld, csl, hcell⟩ := T.clc
  obtain ⟨txt, j, a1, a2, a3, a4, a5, a6, b1, b2, b3, b4, hbody, hev⟩ := T.ini.body
  obtain ⟨pan, pp, hpar⟩ := T.ini.par
  refine ks_codeAny_call_defAt (binds := [("self", .ref x), (fld, v)]) hroom (X _ _ hfI) rfl hlim (codeRec_of X hcd) rfl (kb s x v) T.ini.cell (fun y hy => ?_) (fun h₁ hn k₁ => ?_) T.ini.co T.ini.gen T.ini.kind
  · rcases List.mem_cons.mp hy with rfl | hy
    · exact T.ini.ls
    · rcases List.mem_cons.mp hy with rfl | hy
      · exact T.ini.lf
      · cases hy
  obtain ⟨hp, g, d, tk, os⟩ := s
  have X₁ : K.In h₁ := X.keeps k₁
  have hx₁ := k₁ _ _ hx
  have hxL : x ≠ hp.objs.size := Nat.ne_of_lt (Heap.lt_size hx)
  obtain ⟨mb, hb0, hbm⟩ := hbt
  obtain ⟨cdC, hcC⟩ : ∃ cd, clsIn K C = some cd := by
    have := T.hdC
    unfold hasDictIn at this
    cases e : clsIn K C with
    | none => rw [e] at this; simp at this
    | some cd => exact ⟨cd, rfl⟩
  obtain ⟨oD, hD1, hD2⟩ : ∃ oD, h₁.get? C = some oD ∧ oD.data = .cls cdC := by
    have hcC' := hcC
    unfold clsIn at hcC'
    split at hcC'
    · rename_i c d cd' sl ho
      cases hcC'
      exact ⟨_, X₁ _ _ ho, rfl⟩
    · cases hcC'
  have hself : ([("self", Value.ref x), (fld, v)] : List (Str × Value)).reverse.lookup ("self" : Str) = some (Value.ref x) := by
    have e : (("self" : Str) == fld) = false := by simpa using Ne.symm T.ini.ne
    simp [List.lookup, e]
  have hfld : ([("self", Value.ref x), (fld, v)] : List (Str × Value)).reverse.lookup fld = some v := by simp [List.lookup]
  rw [hbody]
  show PySem.wpAt _ _ (.func _ (ksEnv qual (defScope st) hp.objs.size fI (.ref cda) cc)) (execs _ (ksEnv qual (defScope st) hp.objs.size fI (.ref cda) cc)) _ _ _
  obtain ⟨pl, hev⟩ := hev (ksEnv qual (defScope st) hp.objs.size fI (.ref cda) cc)
  refine ks_wpAt_execs_cons (ks_wpAt_Expr_any (ks_wpAt_MethodCall (pl := pl) ?_ hev) (by simp [interactive, T.ini.kind]))
  refine ks_wpAt_super_base (env := ksEnv qual (defScope st) hp.objs.size fI (.ref cda) cc) T.ini.lsu T.ini.lc (by decide) rfl (X₁ _ _ hfI) rfl hpar rfl (X₁ _ _ hcode) rfl hvs hfile T.top ?_
  refine ks_loadName_global T.ini.kind T.ini.lsu (loadGlobal_builtin (env := ksEnv qual (defScope st) hp.objs.size fI (.ref cda) cc) (hg.keeps k₁) (mg_none_of X hg T.sup) (hb0.keeps k₁) ((hbm _ (by decide +kernel)).trans (by decide +kernel)) ⟨rfl, ?_⟩)
  refine wpAny_loadName_free T.ini.kind T.ini.lc rfl ⟨_, X₁ _ _ hcell, rfl⟩ ?_
  refine wpAny_loadName_local T.ini.kind T.ini.ls hn hself ?_
  refine ks_wpAny_isType_cls hD1 hD2 ⟨rfl, ?_⟩
  refine ks_wpAny_call_super hD1 hD2 hx₁ rfl (fun c e => by cases e) (looks_mroIn X₁ T.mro) (fun h₂ hso k₂ => ?_)
  have X₂ : K.In h₂ := X₁.keeps k₂
  have hx₂ := k₂ _ _ hx₁
  have hI : Looks (model P w) h₂ (isInstance (.ref x) (.type B)) true := (InstAt.type (ox := excObj C t0 none .none) (od := none) ⟨hx₂, rfl, rfl, trivial⟩).andThen (looks_subIn X₂ T.exB)
  have hxC : x ≠ C := fun z => by
    rw [← z] at hD1
    rw [hx₁] at hD1
    cases hD1
    cases hD2
  have alo := T.alo
  unfold ks_superIn at alo
  rw [hcC] at alo
  refine kxs_getMethod T.kxs hso (looks_opaque X₂ T.opq) (l₀ := cdC.mro) (fun A Q E s k q => wpAny_bind ((looks_clsIn X₂ hcC) A _ E s k (wpAny_pure q))) rfl X₂ alo hI hxC (by decide) ?_
  have k₃ : ∀ b o, h₂.get? b = some o → (h₂.push (kxs_mw initId x)).get? b = some o := fun b o e => Heap.get?_push_of_some _ e
  have hu : (h₂.push (kxs_mw initId x)).get? h₂.objs.size = some (kxs_mw initId x) := Heap.get?_push_at rfl rfl
  refine kxs_callWith (i := initId) (x := x) rfl ?_
  refine evalArgs_plain ?_
  refine spliced_cons (Constant_str (k := j) (pos := a4) ?_)
  refine spliced_nil ⟨hu, ?_⟩
  have hLs : hp.objs.size < h₂.objs.size := by
    obtain ⟨oL, _, _, hL, _⟩ := hn
    exact Heap.lt_size (k₂ _ _ hL)
  have hux : h₂.objs.size ≠ x := Nat.ne_of_gt (Heap.lt_size hx₂)
  obtain ⟨nm, Nc, qn, bs, bm, hdct, sn, sub, ab, col, dd, k0, k1, k2, k3, k5, oC, -⟩ := excInit_of (X₂.keeps k₃) T.ei
  refine init_call T.eb oC hu (k₃ _ _ hx₂) (by rw [sizeLine_eq]; exact (by decide : 1 ≤ 16777216)) fun h' kp' hx' => ?_
  have X' : K.In h' := fun a o e => kp' a o (fun z => by rw [z, hnx] at e; cases e) (k₃ _ _ (X₂ a o e))
  have ns' : h'.Ns hp.objs.size (fun y => ([("self", Value.ref x), (fld, v)] : List (Str × Value)).reverse.lookup y) := by
    obtain ⟨oL, es, ep, hL, r⟩ := (hn.keeps k₂).keeps k₃
    exact ⟨oL, es, ep, kp' _ _ (Ne.symm hxL) hL, r⟩
  have hLs' : hp.objs.size < h'.objs.size := by
    obtain ⟨oL, _, _, hL, _⟩ := ns'
    exact Heap.lt_size hL
  refine wpAt_of_wpAny (wpAny_execs_cons (plainObj_wpAny_Assign_Attribute ?_))
  refine wpAny_Name (wpAny_loadName_local T.ini.kind T.ini.lf ns' hfld ?_) T.ini.nd
  refine wpAny_Name (wpAny_loadName_local T.ini.kind T.ini.ls ns' hself ?_) (by decide)
  refine xc_store (s := ⟨h', g, d, _, os⟩) T X' hx' fun h'' tk'' dx kp dn dne ho hns => wpAny_execs_nil ?_
  exact hq h'' tk'' dx _ ⟨fun b o hb e => kp b o hb (kp' b o hb (k₃ _ _ (k₂ _ _ (k₁ _ _ e)))), ho, Nat.le_trans (Nat.le_of_lt hLs') dn, dne, hns⟩
theorem xcK_made (kb : ∀ (s : Shared) (x : Addr) (v : Value), BindsTo s fd ⟨[.ref x], [(fld, v)]⟩ [("self", .ref x), (fld, v)]) (T : ExTxt P K st C fI cc cda fd B newId initId bmB fld) {v : Value} (X : K.In s.heap) (hg : s.heap.Ns mainGlobals mg) (hbt : ∃ mb, s.heap.Ns builtinsNs mb ∧ ∀ x : Str, x ≠ "__name__" → mb x = bootBuiltins x) (hlim : s.heap.NoLimit) (hroom : A.depth + 1 < recursionLimit)
    (hq : ∀ h' tk e d, XMade s.heap h' e C d fld v → R (.ok (.ret (.ref e))) { s with heap := h', toks := tk }) :
    codeAny (model P w) A (.call (.ref C) ⟨[], [(fld, v)]⟩) R s := by
  obtain ⟨nm, N, qn, bs, bm, hdct, sn, sub, ab, col, dd, k0, k1, k2, k3, k5, hC, hT⟩ := excInit_of X T.ei
  obtain ⟨hp, g, dr, tk, os⟩ := s
  have k : ∀ b o, hp.get? b = some o → ((hp.push (kdv_tup [])).push (excO C hp.objs.size)).get? b = some o := fun b o e => Heap.get?_push_of_some _ (Heap.get?_push_of_some _ e)
  have hget : ((hp.push (kdv_tup [])).push (excO C hp.objs.size)).get? (hp.objs.size + 1) = some (excObj C hp.objs.size none .none) := by heap_get
  have hnx : K.lookup (hp.objs.size + 1) = none := by
    cases e : K.lookup (hp.objs.size + 1) with
    | none => rfl
    | some o => exact absurd (Nat.lt_of_succ_lt (Heap.lt_size (show hp.get? (hp.objs.size + 1) = some o from X _ _ e))) (Nat.lt_irrefl _)
  obtain ⟨mb, hb0, hbm⟩ := hbt
  obtain ⟨Bn, inN, bmN, F, hB⟩ := T.eb.nw
  refine madeK_call F ((hT _).trans hB) ((hT _).trans T.eb.na) ((hT _).trans T.eb.nn) hC (looks_findIn X T.iC) (fun self => bind_fn X self T.tC) ?_
  refine xcK_init kb (s := ⟨(hp.push (kdv_tup [])).push (excO C hp.objs.size), g, dr, tk, os⟩) T (X.keeps k) (hg.keeps k) ⟨mb, hb0.keeps k, hbm⟩ (hlim.keeps k) hget hnx hroom fun h' tk' dx t1 M => ?_
  have z : hp.objs.size + 1 + 1 ≤ dx := by
    have q := M.dbig
    simpa only [Heap.size_push] using q
  exact ⟨rfl, hq h' tk' (hp.objs.size + 1) dx ⟨fun b o e => M.keep b o (Nat.ne_of_lt (Nat.lt_succ_of_lt (Heap.lt_size e))) (k b o e), Nat.le_succ _, ⟨_, _, M.obj, rfl, rfl, rfl, rfl⟩, by show hp.objs.size ≤ dx; omega, M.dne, M.ns⟩⟩
end
end Lad
end
section
set_option maxRecDepth 100000
set_option maxHeartbeats 2000000
namespace Lad
open PySem L2
end Lad
namespace Lad
open PySem L2
end Lad
namespace Lad
open PySem L2
end Lad
end
section
set_option maxRecDepth 100000
set_option maxHeartbeats 2000000
namespace Lad
open PySem L2
section
variable {X : Cx} {st : Stmt} {C fI cc cda : Addr} {fd : FuncData} {B newId initId : String} {bmB : List Value} {fld : Str}
theorem erO_ok {P : Program} {w : World} {H : Hp} {h : Heap} {a dx : Addr} {oe : Obj} {vs : Array Value} (e : h.get? a = some oe) (z : Zc (.ref C) (some dx) oe) (d : oe.data = .fields vs) : ObjOk P w H h a (ErO C a dx) :=
  ⟨⟨oe, vs, e, z, d⟩, ⟨oe, e⟩, fun _ _ ⟨o, v, q, r⟩ k => ⟨o, v, k o q, r⟩⟩
theorem rd_err {pins : List (Addr × Obj)} {σ : St} {H : Hp} {s : Shared} (I : Inv X pins σ H s) {a dx : Addr} (h : Rd H a (ErO C a dx)) : ∃ (oe : Obj) (vs : Array Value), s.heap.get? a = some oe ∧ Zc (.ref C) (some dx) oe ∧ oe.data = .fields vs := by
  rcases h with h | ⟨ob, h⟩
  · exact (I.hok a _ h).1
  · exact (I.hok a _ h).2.1
def rEr (C : Addr) (fld : Str) (v : V) (H1 : Hp) (Q : VK) : Prop := ∀ d e, H1 d = none → H1 e = none → d ≠ e → Q (.ref e) (upd (upd H1 d (.xd [(fld, v)])) e (ErO C e d))
theorem er_tail {pins : List (Addr × Obj)} {σ : St} {H1 : Hp} {hp : Heap} {g : Array GenState} {dr : Drawn} {tk tk' : Nat} {os : OsState} {h' : Heap} {e d : Addr} {v : V} {v' : Value} {Q : VK} (I1 : Inv X pins σ H1 ⟨hp, g, dr, tk, os⟩) (rv : RelV v v') (M : XMade hp h' e C d fld v') (q : rEr C fld v H1 Q) : EP X pins σ Q (.ref e) ⟨h', g, dr, tk', os⟩ := by
  obtain ⟨oe, fv, hoe, hc, hd, hdat, h1⟩ := M.obj
  have hns := M.ns
  obtain ⟨G', g1, g2⟩ := restrict h' fun b => decide (b ≠ e)
  have gk : ∀ b, b ≠ e → G'.get? b = h'.get? b := fun b hb => g1 b (decide_eq_true hb)
  have ge : G'.get? e = none := g2 e (by simp)
  have old : ∀ b o, hp.get? b = some o → G'.get? b = some o := fun b o q => (gk b (Nat.ne_of_lt (Nat.lt_of_lt_of_le (Heap.lt_size q) M.new))).trans (M.keep b o q)
  have ob : ObjOk X.prog X.w (upd H1 d (.xd [(fld, v)])) G' d (.xd [(fld, v)]) := ⟨_, hns.at (fun o q => (gk d M.dne).trans q), fun f => relO_one rv fld f⟩
  have J : Inv X pins σ (upd H1 d (.xd [(fld, v)])) ⟨G', g, dr, tk', os⟩ := I1.laid (t' := tk') old M.dbig ob
  have hd1 := I1.hok.fresh M.dbig
  have he1 := I1.hok.fresh M.new
  have J2 := J.laidN (h' := h') (a := e) (o := ErO C e d) (t' := tk') (fun b o q => by
    by_cases hb : b = e
    · have q' : G'.get? b = some o := q
      rw [hb, ge] at q'; cases q'
    · exact (gk b hb).symm.trans q) ge (by rw [upd_ne (Ne.symm M.dne)]; exact he1) (erO_ok hoe ⟨hc, hd⟩ hdat)
  exact ⟨.ref e, _, J2, rfl, q d e hd1 he1 M.dne⟩
def tEr (C : Addr) (fld : Str) (ta : TA) : TE := fun σ H Q => ta σ H fun vs H1 => ∃ v, vs = [v] ∧ rEr C fld v H1 Q
theorem pe_er {x : Str} {a : Expr} {ta : TA} {p pos : Pos} {k : Nat} (T : ExTxt X.prog X.K st C fI cc cda fd B newId initId bmB fld) (hr : Room k X.A) (gC : X.mg x = some (.ref C)) (ha : PA X [a] ta) (hg : Gl X x := by rfl) (hdb : (x == ("__debug__" : Str)) = false := by decide)
    (he : starEach (a :: []) X.env = (false, eval a X.env) :: starEach [] X.env := by rfl) (hpl : (backTo pos (starEach [] X.env)).any (·.1) = false := by rfl) :
    PE X (.Call (.Name x p) [a] [] pos) (tEr C fld ta) := by
  refine ⟨fun pins s σ H Q I h => ?_⟩
  refine wpAny_Call_Name_kw (ld_glob I hg gC ?_ hdb)
  refine PySem.W.callWith_K (h₀ := X.base) I.ok.mod.kin T.kC (thn (ha.run pos pins s σ H _ I h) fun us s1 hh => ?_) he hpl
  obtain ⟨vs, H1, I1, r1, v, ev, q1⟩ := hh
  subst ev
  refine ⟨I1.kIn, ?_⟩
  cases r1 with
  | cons rv rn =>
    rename_i v' us'
    cases rn
    have hlim := I1.nolimit
    obtain ⟨mb, hb0, hbm⟩ := I1.ok.mod.blt
    have hg1 := I1.ok.mod.glob.keeps I1.bk
    have hb1 := hb0.keeps I1.bk
    obtain ⟨hp, g, dr, tk, os⟩ := s1
    exact wpAny_call (xc_made T I1.kIn hg1 ⟨mb, hb1, hbm⟩ hlim (by have := hr.dp; omega) fun h' tk' e d M => er_tail I1 rv M q1)
theorem pe_erK {x : Str} {kws : List Keyword} {tk : TA} {p pos : Pos} {k : Nat} (T : ExTxt X.prog X.K st C fI cc cda fd B newId initId bmB fld) (kb : ∀ (s : Shared) (x : Addr) (v : Value), BindsTo s fd ⟨[.ref x], [(fld, v)]⟩ [("self", .ref x), (fld, v)]) (hr : Room k X.A) (gC : X.mg x = some (.ref C)) (hkw : PK X kws tk) (hg : Gl X x := by rfl)
    (hall : (backToKw pos (keywordEach kws X.env)).all (·.1.isSome) = true := by rfl) (hks : (backToKw pos (keywordEach kws X.env)).filterMap (·.1) = [fld] := by rfl) (hdb : (x == ("__debug__" : Str)) = false := by decide)
    (hpl : ((backTo pos (starEach [] X.env)).any (·.1) || (backToKw pos (keywordEach kws X.env)).any (·.1.isNone)) = false := by rfl) :
    PE X (.Call (.Name x p) [] kws pos) (tEr C fld tk) := by
  refine ⟨fun pins s σ H Q I h => ?_⟩
  refine wpAny_Call_Name_kw (ld_glob I hg gC ?_ hdb)
  refine PySem.W.callWith_KW0 (h₀ := X.base) I.ok.mod.kin T.kC hall (thn (hkw.run pos pins s σ H _ I h) fun ws s1 hh => ?_) hpl
  obtain ⟨vs, H1, I1, r1, v, ev, q1⟩ := hh
  subst ev
  refine ⟨I1.kIn, ?_⟩
  rw [hks]
  cases r1 with
  | cons rv rn =>
    rename_i v' us'
    cases rn
    have hlim := I1.nolimit
    obtain ⟨mb, hb0, hbm⟩ := I1.ok.mod.blt
    have hg1 := I1.ok.mod.glob.keeps I1.bk
    have hb1 := hb0.keeps I1.bk
    obtain ⟨hp, g, dr, tk, os⟩ := s1
    exact wpAny_call (xcK_made kb T I1.kIn hg1 ⟨mb, hb1, hbm⟩ hlim (by have := hr.dp; omega) fun h' tk' e d M => er_tail I1 rv M q1)
/-- e.f of such a value -/
theorem pe_erf {e : Expr} {te : TE} {pos : Pos} {n : Str} (T : XfC X.K C) (hno : PySem.W.findIn X.K (.ref C) n = some none) (he : PE X e te) (hb : attributeBase e n X.env (eval e X.env) = eval e X.env := by rfl) :
    PE X (.Attribute e n pos) (fun σ H Q => te σ H fun x H1 => ∃ (a dd : Addr) (fs : List (Str × V)) (v : V), x = .ref a ∧ Rd H1 a (ErO C a dd) ∧ H1 dd = some (.xd fs) ∧ fs.lookup n = some v ∧ Q v H1) := by
  refine ⟨fun pins s σ H Q I h => ?_⟩
  refine attr_of hb (thn (he.run pins s σ H _ I h) fun u s1 hh => ?_)
  obtain ⟨x, H1, I1, rx, a, dd, fs, v, ex, er, ea, l, q⟩ := hh
  subst ex
  obtain rfl : u = Value.ref a := rx
  obtain ⟨oe, vs, ha, hz, hd⟩ := rd_err I1 er
  have hx : ObjOk X.prog X.w H1 s1.heap dd (.xd fs) := I1.hok dd _ ea
  obtain ⟨mA, hns, hr⟩ := hx
  obtain ⟨od, ho, hl⟩ := lookIn_ns hns
  obtain ⟨u, hu, ru⟩ := RelO.some_of (v := v) (o := mA n) (by rw [← l]; exact hr n)
  have J : PySem.W.InstAt s1.heap a oe C (some od) := ⟨ha, hz.1, by unfold PySem.W.notCls; rw [hd] <;> rfl, by rw [hz.2]; exact ho⟩
  exact HandSPX.exc_get I1.kIn J T.ga T.gg T.exC (PySem.W.findObj_own T.hdC hno rfl (by rw [hl, hu])) (handed_of ru) ⟨v, H1, I1.tok _, ru, q⟩
/-- isinstance of such a value -/
def rIsE (K : PySem.W.Frag) : List V → Hp → VK → Prop := fun xs H Q => ∃ (D a dx : Addr) (c : V) (cv : Value) (b : Bool) (fs : List (Str × V)), xs = [.ref a, c] ∧ ExcC K D ∧ Rd H a (ErO D a dx) ∧ (∀ u, RelV c u → u = cv) ∧ PySem.W.kitOne K (.ref D) cv = some b ∧ H dx = some (.xd fs) ∧ Q (.bl b) H
theorem call_isE {X : Cx} : CallR X (.builtin "isinstance") (rIsE X.K) := by
  intro pins s σ H xs us Q I r h
  obtain ⟨D, a, dx, c, cv, b, fs, rfl, C, er, hcv, e, hdx, q⟩ := h
  match us, r with
  | [_, _], .cons rx (.cons rt .nil) =>
    cases rx
    obtain rfl := hcv _ rt
    obtain ⟨oe, vs, hget, hz, hd⟩ := rd_err I er
    have hx : ObjOk X.prog X.w H s.heap dx (.xd fs) := I.hok dx _ hdx
    obtain ⟨mA, hns, hr⟩ := hx
    obtain ⟨od, ho, hl⟩ := lookIn_ns hns
    have J : PySem.W.InstAt s.heap a oe D (some od) := ⟨hget, hz.1, by unfold PySem.W.notCls; rw [hd] <;> rfl, by rw [hz.2]; exact ho⟩
    have hcl : (PySem.W.clsIn X.K D).isSome = true := by
      have := C.hd
      unfold PySem.W.hasDictIn at this
      cases e : PySem.W.clsIn X.K D with
      | none => rw [e] at this; simp at this
      | some cd => rfl
    exact PySem.W.kia_one (PySem.W.kitx_exc hcl C.hg C.hk C.hs C.ha C.hn C.ht C.hm) I.kIn J e (fun z => nomatch z) fun tk => ⟨.bl b, H, I.kept (t' := tk) fun _ _ z => z, rfl, q⟩
end
def eErr (c : Nat) (g : En → Hea → Res (List Val)) : En → Hea → Res Val := fun e h => (g e h).bind fun ds h1 => match ds with
  | [d] => .ok (.err c d) h1
  | _ => .stuck
def oErF (c : Nat) : Hea → Val → Option Val
  | _, .err c' d => if c' = c then some d else none
  | _, _ => none
def oErIs (tab : Nat → Option Bool) : Hea → Val → Option Val
  | _, .err c _ => (tab c).map .bl
  | _, _ => none
section
variable {T : Tb} {X : Cx} {W : WX} {st : Stmt} {fI cc cda : Addr} {fd : FuncData} {B newId initId : String} {bmB : List Value} {c : Nat} {x : Str} {a : Expr} {g : En → Hea → Res (List Val)} {f : En → Hea → Res Val} {p pos p1 : Pos} {k : Nat} {kws : List Keyword} {nm : Str} {cV : V} {cv : Value} {tab : Nat → Option Bool}
theorem er_imp {σ : St} {H : Hp} {Q : VK} (q : tE (sy T X) W (eErr c g) σ H Q) : tEr (T.ca c) (T.fld c) (tA (sy T X) W g) σ H Q := by
  obtain ⟨ρ, e, h, R, E, a⟩ := q
  unfold eErr at a
  refine ⟨ρ, e, h, R, E, (AftA.bind a).mono fun zs H1 ⟨ρ1, dz, h1, s, R1, r1, a1⟩ => ?_⟩
  match dz, zs, r1, a1 with
  | [d], [v], .cons rd .nil, a1 =>
    refine ⟨v, rfl, fun dx x hd hx ne => ?_⟩
    have hx2 : upd H1 dx (.xd [(T.fld c, v)]) x = none := by rw [upd_ne (Ne.symm ne)]; exact hx
    refine a1 ρ1 (.ref x) _ ((Go.side hd).trans (Go.side hx2)) ((R1.side hd).side hx2) ?_
    exact .err (R1.fz hx) (.inl upd_same) (by rw [upd_ne ne]; exact upd_same) ((rd.mono (.side hd)).mono (.side hx2))
  | [], _, _, a1 => exact a1.elim
  | _ :: _ :: _, _, _, a1 => exact a1.elim
/-- BadX(e) as a value -/
theorem se_err (E : ExTxt X.prog X.K st (T.ca c) fI cc cda fd B newId initId bmB (T.fld c)) (hr : Room k X.A) (gC : X.mg x = some (.ref (T.ca c))) (ha : SA T X W [a] g) (hg : Gl X x := by rfl) (hdb : (x == ("__debug__" : Str)) = false := by decide)
    (he : starEach (a :: []) X.env = (false, eval a X.env) :: starEach [] X.env := by rfl) (hpl : (backTo pos (starEach [] X.env)).any (·.1) = false := by rfl) :
    SE T X W (.Call (.Name x p) [a] [] pos) (eErr c g) := (pe_er E hr gC ha hg hdb he hpl).imp fun _ _ _ q => er_imp q
/-- BadX(f=e) as a value -/
theorem se_errK (E : ExTxt X.prog X.K st (T.ca c) fI cc cda fd B newId initId bmB (T.fld c)) (kb : ∀ (s : Shared) (x : Addr) (v : Value), BindsTo s fd ⟨[.ref x], [(T.fld c, v)]⟩ [("self", .ref x), (T.fld c, v)]) (hr : Room k X.A) (gC : X.mg x = some (.ref (T.ca c))) (hkw : SK T X W kws g) (hg : Gl X x := by rfl)
    (hall : (backToKw pos (keywordEach kws X.env)).all (·.1.isSome) = true := by rfl) (hks : (backToKw pos (keywordEach kws X.env)).filterMap (·.1) = [T.fld c] := by rfl) (hdb : (x == ("__debug__" : Str)) = false := by decide)
    (hpl : ((backTo pos (starEach [] X.env)).any (·.1) || (backToKw pos (keywordEach kws X.env)).any (·.1.isNone)) = false := by rfl) :
    SE T X W (.Call (.Name x p) [] kws pos) (eErr c g) := (pe_erK E kb hr gC hkw hg hall hks hdb hpl).imp fun _ _ _ q => er_imp q
/-- e.f of an error -/
theorem se_erf (XC : XfC X.K (T.ca c)) (hno : PySem.W.findIn X.K (.ref (T.ca c)) nm = some none) (hnm : T.fld c = nm) (he : SE T X W a f)
    (hb : attributeBase a nm X.env (eval a X.env) = eval a X.env := by rfl) : SE T X W (.Attribute a nm pos) (eUn (oErF c) f) := (pe_erf XC hno he hb).imp fun σ H Q q => by
  obtain ⟨ρ, e, h, R, E, a1⟩ := tE.bind (f := f) (g := fun e x h1 => opt (oErF c h1 x) h1) q
  refine ⟨ρ, e, h, R, E, a1.mono fun v H1 ⟨ρ1, e1, d1, h1, b1, a2⟩ => ?_⟩
  obtain ⟨R1, E1, r1⟩ := b1
  unfold oErF at a2
  split at a2
  · split at a2
    · rename_i hc
      cases r1 with
      | err w h1 h2 r =>
        subst hc
        refine ⟨_, _, _, _, rfl, h1, h2, ?_, a2.same R1 r⟩
        subst hnm
        simp [sy, List.lookup]
    · exact a2.elim
  · exact a2.elim
/-- isinstance(e, C) of an error -/
theorem se_isE (hm : X.mg "isinstance" = none) (he : SE T X W a f) (hc : PE X (.Name x p1) (tC cV)) (hcv : ∀ u, RelV cV u → u = cv) (ht : ∀ c b, tab c = some b → ExcC X.K (T.ca c) ∧ PySem.W.kitOne X.K (.ref (T.ca c)) cv = some b) (hg : Gl X "isinstance" := by rfl)
    (hs : starEach (a :: [.Name x p1]) X.env = (false, eval a X.env) :: starEach [.Name x p1] X.env := by rfl) :
    SE T X W (.Call (.Name "isinstance" p) [a, .Name x p1] [] pos) (eUn (oErIs tab) f) := by
  refine PE.imp (pe_callB call_isE hg hm (by decide +kernel) (pa_cons he (pa_cons hc pa_nil) hs) (he := hs)) fun σ H Q q => ?_
  obtain ⟨ρ, e, h, R, E, a1⟩ := tE.bind (f := f) (g := fun e x h1 => opt (oErIs tab h1 x) h1) q
  refine ⟨ρ, e, h, R, E, a1.mono fun v H1 ⟨ρ1, e1, d1, h1, b1, a2⟩ => ?_⟩
  obtain ⟨R1, E1, r1⟩ := b1
  show rIsE X.K [v, cV] H1 Q
  unfold oErIs at a2
  split at a2
  · rename_i c' d'
    cases r1 with
    | err w h1 h2 r =>
      cases ht1 : tab c' with
      | none => rw [ht1] at a2; exact a2.elim
      | some b =>
        rw [ht1] at a2
        exact ⟨_, _, _, cV, cv, b, _, rfl, (ht c' b ht1).1, h1, hcv, (ht c' b ht1).2, h2, Aft.same (d := .bl b) a2 R1 (.bl b)⟩
  · exact a2.elim
end
end Lad
end
section
set_option maxRecDepth 100000
set_option maxHeartbeats 2000000
namespace Lad
open PySem L2
theorem ErD.kb {P : Program} {K : PySem.W.Frag} {d : ErD} {B newId initId : String} {bmB : List Value}
    (hbk : ∀ (kV doc pm : Value) (an : Option Addr) (cdv ct : Value) (cc : Addr) (u v : Value), bindArgs (PySem.W.ksFn "__init__" d.qual (defArgs d.st) (defBody d.st) (defScope d.st) .none kV doc pm an cdv ct cc) ⟨[u], [(d.fld, v)]⟩ = pure ([("self", u), (d.fld, v)] : List (Str × Value)))
    (e : erW K d = d.val) (c : erB P.main.file B newId initId bmB K d = true) : ∀ (s : Shared) (x : Addr) (v : Value), BindsTo s (fdOf K (erI K d)) ⟨[.ref x], [(d.fld, v)]⟩ [("self", .ref x), (d.fld, v)] := by
  unfold erB at c
  simp only [Bool.and_eq_true] at c
  obtain ⟨c0, c1, c2, c3, c4, c5, c6, c7, c8, c9, c10, c11, c12, c13, c14, c15⟩ := c
  unfold erW at e
  cases q : K.lookup (erI K d) with
  | none => rw [q] at c0; exact absurd c0 Bool.false_ne_true
  | some o =>
    obtain ⟨oc, od, dt, osl⟩ := o
    rw [q] at c0 e
    cases dt with
    | func fd =>
      obtain ⟨n1, n2, n3, n4, n5, n6, n7, n8, n9, n10, n11, n12, n13, n14, n15⟩ := fd
      have e2 : (some (n1, n2, n3, n4, n5, n6, n7.map (fun p => (p.1, 0)), n15) : He.FnW) = (some ("__init__", d.qual, defArgs d.st, .stmts (defBody d.st), defScope d.st, mainGlobals, [("__class__", 0)], builtinsNs) : He.FnW) := e
      simp only [Option.some.injEq, Prod.mk.injEq] at e2
      obtain ⟨h1, h2, h3, h4, h5, h6, h7, h8⟩ := e2
      subst h1 h2 h3 h4 h5 h6 h8
      dsimp only at c0
      obtain ⟨k1, k2⟩ := Bool.and_eq_true_iff.mp c0
      obtain rfl := noneB_ok k1
      match n7, h7 with
      | [(nm, cc)], h7 =>
        have e7 : nm = "__class__" := by
          have h8 : ((nm, 0) : Str × Addr) = ((("__class__" : Str), 0) : Str × Addr) := (List.cons.inj h7).1
          exact (Prod.mk.inj h8).1
        subst e7
        cases n13 with
        | ref cda =>
          dsimp only at k2
          obtain ⟨k2, k34⟩ := Bool.and_eq_true_iff.mp k2
          obtain ⟨k3, k4⟩ := Bool.and_eq_true_iff.mp k34
          have efd : fdOf K (erI K d) = PySem.W.ksFn "__init__" d.qual (defArgs d.st) (defBody d.st) (defScope d.st) .none n9 n10 n11 n12 (.ref cda) n14 cc := by unfold fdOf; rw [q]
          rw [efd]
          exact fun s x v => BindsTo.of_eq (hbk _ _ _ _ _ _ _ _ _)
        | _ => exact absurd k2 Bool.false_ne_true
    | _ => exact absurd c0 Bool.false_ne_true
end Lad
end
section
set_option maxRecDepth 100000
set_option maxHeartbeats 1000000
namespace K22
open PySem L2 Lad
def b__law_pool : En → Hea → SRes := (sSeq (sSet 2 (eIf (eBin oLt (eVar 1) (eIt gLen (eVar 0))) (eBin oIx (eVar 0) (eVar 1)) (eBin oAdd (eBin oMul (eC (.int 7)) (eItL gSum (lCut (eVar 0) none (some (eC (.int 63)))))) (eVar 1))))
  (sSeq (sSet 3 (eCB gAbs (aCons (eVar 2) aNil)))
  (sSeq (sSet 4 (eBin oAdd (eBin oAdd (eBin oAdd (eBin oMod (eCB gInt (aCons (eVar 3) aNil)) (eC (.int 2147483629))) (eBin oMul (eBin oMul (eC (.int 7919)) (eVar 1)) (eVar 1))) (eBin oMul (eC (.int 31)) (eVar 1))) (eC (.int 17))))
  (sSeq (sSet 4 (eBin oMod (eCB gInt (aCons (eBin oMul (eVar 4) (eC (.int 48271))) aNil)) (eC (.int 2147483647))))
  (sRet (eNew (lDisp (aCons (eBin oMul (eVar 3) (eCB gInt (aCons (eBin oGe (eVar 3) (eBin oPow (eC (.int 10)) (eC (.int 18)))) aNil))) (aCons (eBin oMod (eCB gInt (aCons (eBin oMul (eVar 4) (eVar 4)) aNil)) (eC (.int 2147483629))) aNil)))))))))
def c__law_pool : List Val → Hea → Res Val := runK 2 5 b__law_pool
def b__law_draw : En → Hea → SRes := (sSeq (sIf (eBin oGt (eBin oIx (eVar 0) (eC (.int 0))) (eC (.int 0))) (sSeq (sSet 2 (eBin oMod (eCB gInt (aCons (eBin oIx (eVar 0) (eC (.int 0))) aNil)) (eVar 1)))
  (sSeq (sSetIx (eBin oDiv (eBin oIx (eVar 0) (eC (.int 0))) (eVar 1)) (eVar 0) (eC (.int 0)))
  (sRet (eVar 2)))) sNil)
  (sSeq (sSetIx (eBin oMod (eCB gInt (aCons (eBin oAdd (eBin oMul (eBin oIx (eVar 0) (eC (.int 1))) (eC (.int 48271))) (eC (.int 11))) aNil)) (eC (.int 2147483647))) (eVar 0) (eC (.int 1)))
  (sRet (eBin oMod (eCB gInt (aCons (eBin oDiv (eBin oMod (eCB gInt (aCons (eBin oMul (eBin oIx (eVar 0) (eC (.int 1))) (eBin oIx (eVar 0) (eC (.int 1)))) aNil)) (eC (.int 2147483629))) (eC (.int 16))) aNil)) (eVar 1)))))
def c__law_draw : List Val → Hea → Res Val := runB 2 3 b__law_draw
def l__law_kinds_right_0 : En → Hea → SRes := (sIf (eOr (eUn oNot (eUn (oErIs tE_LadderError_0) (eVar 1))) (eUn oNot (eUn (oErIs tE_ValueError_1) (eVar 1)))) (sRet (eC (.bl false))) sNil)
def l__law_kinds_right_1 : En → Hea → SRes := (sIf (eUn (oErIs tE_LadderError_0) (eVar 1)) (sRet (eC (.bl false))) sNil)
def b__law_kinds_right : En → Hea → SRes := (sSeq (sSet 0 (eLst (lDisp (aCons (eErr 1 (aCons (eC (.int 1)) aNil)) (aCons (eErr 2 (aCons (eC (.int 1)) aNil)) (aCons (eErr 3 (aCons (eC (.int 1)) aNil)) (aCons (eErr 4 (aCons (eC (.int 1)) aNil)) (aCons (eErr 5 (aCons (eC (.int 1)) aNil)) (aCons (eErr 6 (aCons (eC (.int 1)) aNil)) aNil)))))))))
  (sSeq (sSet 0 (eBin oAdd (eVar 0) (eLst (lDisp (aCons (eErr 7 (aCons (eC (.int 1)) aNil)) (aCons (eErr 19 (aCons (eC (.int 1)) aNil)) (aCons (eErr 23 (aCons (eC (.int 1)) aNil)) (aCons (eErr 8 (aCons (eC (.int 1)) aNil)) (aCons (eErr 9 (aCons (eC (.int 1)) aNil)) (aCons (eErr 10 (aCons (eC (.int 1)) aNil)) aNil))))))))))
  (sSeq (sSet 0 (eBin oAdd (eVar 0) (eLst (lDisp (aCons (eErr 11 (aCons (eC (.int 1)) aNil)) (aCons (eErr 12 (aCons (eC (.int 1)) aNil)) (aCons (eErr 13 (aCons (eC (.int 1)) aNil)) (aCons (eErr 14 (aCons (eC (.int 1)) aNil)) (aCons (eErr 15 (aCons (eC (.int 1)) aNil)) aNil)))))))))
  (sSeq (sSet 0 (eBin oAdd (eVar 0) (eLst (lDisp (aCons (eErr 16 (aCons (eC (.int 1)) aNil)) (aCons (eErr 17 (aCons (eC (.int 1)) aNil)) (aCons (eErr 18 (aCons (eC (.int 1)) aNil)) (aCons (eErr 20 (aCons (eC (.int 1)) aNil)) (aCons (eErr 21 (aCons (eC (.int 1)) aNil)) (aCons (eErr 22 (aCons (eC (.int 1)) aNil)) aNil))))))))))
  (sSeq (sFor (iSeq (eVar 0)) (gN 1) l__law_kinds_right_0)
  (sSeq (sIf (eOr (eUn (oErIs tE_BadBook_2) (eErr 3 (aCons (eC (.int 1)) aNil))) (eOr (eUn (oErIs tE_BadPlace_3) (eErr 2 (aCons (eC (.int 1)) aNil))) (eUn (oErIs tE_BadGame_4) (eErr 11 (aCons (eC (.int 1)) aNil))))) (sRet (eC (.bl false))) sNil)
  (sSeq (sIf (eOr (eUn (oErIs tE_BadBout_5) (eErr 13 (aCons (eC (.int 1)) aNil))) (eOr (eUn (oErIs tE_BadHand_6) (eErr 10 (aCons (eC (.int 1)) aNil))) (eUn (oErIs tE_BadText_7) (eErr 20 (aCons (eC (.int 1)) aNil))))) (sRet (eC (.bl false))) sNil)
  (sSeq (sIf (eOr (eUn oNot (eUn (oErIs tE_KeyError_8) (eErr 24 (aCons (eC (.int 1)) aNil)))) (eUn oNot (eUn (oErIs tE_OverflowError_9) (eErr 25 (aCons (eC (.int 1)) aNil))))) (sRet (eC (.bl false))) sNil)
  (sSeq (sIf (eUn oNot (eUn (oErIs tE_RuntimeError_10) (eErr 26 (aCons (eC (.int 1)) aNil)))) (sRet (eC (.bl false))) sNil)
  (sSeq (sFor (iTmp (lDisp (aCons (eErr 24 (aCons (eC (.int 1)) aNil)) (aCons (eErr 25 (aCons (eC (.int 1)) aNil)) (aCons (eErr 26 (aCons (eC (.int 1)) aNil)) aNil))))) (gN 1) l__law_kinds_right_1)
  (sRet (eC (.bl true)))))))))))))
def c__law_kinds_right : List Val → Hea → Res Val := runB 0 2 b__law_kinds_right
def b__law_kept_too : En → Hea → SRes := (sSeq (sIf (eOr (eBin oNe (eUn (oErF 14) (eErr 14 (aCons (eVar 0) aNil))) (eVar 0)) (eBin oNe (eUn (oErF 15) (eErr 15 (aCons (eVar 0) aNil))) (eVar 0))) (sRet (eC (.bl false))) sNil)
  (sSeq (sIf (eBin oNe (eUn (oErF 17) (eErr 17 (aCons (eVar 0) aNil))) (eVar 0)) (sRet (eC (.bl false))) sNil)
  (sSeq (sIf (eOr (eBin oNe (eUn (oErF 18) (eErr 18 (aCons (eVar 0) aNil))) (eVar 0)) (eBin oNe (eUn (oErF 19) (eErr 19 (aCons (eVar 0) aNil))) (eVar 0))) (sRet (eC (.bl false))) sNil)
  (sSeq (sIf (eBin oNe (eUn (oErF 20) (eErr 20 (aCons (eVar 0) aNil))) (eVar 0)) (sRet (eC (.bl false))) sNil)
  (sSeq (sIf (eOr (eBin oNe (eUn (oErF 21) (eErr 21 (aCons (eVar 0) aNil))) (eVar 0)) (eBin oNe (eUn (oErF 22) (eErr 22 (aCons (eVar 0) aNil))) (eVar 0))) (sRet (eC (.bl false))) sNil)
  (sSeq (sIf (eBin oNe (eUn (oErF 23) (eErr 23 (aCons (eVar 0) aNil))) (eVar 0)) (sRet (eC (.bl false))) sNil)
  (sSeq (sIf (eOr (eBin oNe (eUn (oErF 24) (eErr 24 (aCons (eVar 0) aNil))) (eVar 0)) (eBin oNe (eUn (oErF 25) (eErr 25 (aCons (eVar 0) aNil))) (eVar 0))) (sRet (eC (.bl false))) sNil)
  (sSeq (sIf (eBin oNe (eUn (oErF 26) (eErr 26 (aCons (eVar 0) aNil))) (eVar 0)) (sRet (eC (.bl false))) sNil)
  (sSeq (sIf (eOr (eBin oNe (eUn (oErF 12) (eErr 12 (aCons (eVar 0) aNil))) (eVar 0)) (eBin oNe (eUn (oErF 13) (eErr 13 (aCons (eVar 0) aNil))) (eVar 0))) (sRet (eC (.bl false))) sNil)
  (sRet (eC (.bl true))))))))))))
def c__law_kept_too : List Val → Hea → Res Val := runB 1 1 b__law_kept_too
def l_law_0 : En → Hea → SRes := (sSeq (sIf (eOr (eBin oNe (eUn (oErF 1) (eErr 1 (aCons (eVar 3) aNil))) (eVar 3)) (eBin oNe (eUn (oErF 2) (eErr 2 (aCons (eVar 3) aNil))) (eVar 3))) (sRet (eC (.bl false))) sNil)
  (sSeq (sIf (eBin oNe (eUn (oErF 3) (eErr 3 (aCons (eVar 3) aNil))) (eVar 3)) (sRet (eC (.bl false))) sNil)
  (sSeq (sIf (eOr (eBin oNe (eUn (oErF 4) (eErr 4 (aCons (eVar 3) aNil))) (eVar 3)) (eBin oNe (eUn (oErF 5) (eErr 5 (aCons (eVar 3) aNil))) (eVar 3))) (sRet (eC (.bl false))) sNil)
  (sSeq (sIf (eBin oNe (eUn (oErF 6) (eErr 6 (aCons (eVar 3) aNil))) (eVar 3)) (sRet (eC (.bl false))) sNil)
  (sSeq (sIf (eOr (eBin oNe (eUn (oErF 7) (eErr 7 (aCons (eVar 3) aNil))) (eVar 3)) (eBin oNe (eUn (oErF 8) (eErr 8 (aCons (eVar 3) aNil))) (eVar 3))) (sRet (eC (.bl false))) sNil)
  (sSeq (sIf (eBin oNe (eUn (oErF 9) (eErr 9 (aCons (eVar 3) aNil))) (eVar 3)) (sRet (eC (.bl false))) sNil)
  (sSeq (sIf (eOr (eBin oNe (eUn (oErF 10) (eErr 10 (aCons (eVar 3) aNil))) (eVar 3)) (eBin oNe (eUn (oErF 11) (eErr 11 (aCons (eVar 3) aNil))) (eVar 3))) (sRet (eC (.bl false))) sNil)
  (sSeq (sIf (eBin oNe (eUn (oErF 16) (eErr 16 (aCons (eVar 3) aNil))) (eVar 3)) (sRet (eC (.bl false))) sNil)
  (sSeq (sIf (eUn oNot (eCall c__law_kept_too (aCons (eVar 3) aNil))) (sRet (eC (.bl false))) sNil)
  (sIf (eOr (eBin oNe (eUn (oErF 1) (eErr 1 (aCons (eVar 3) aNil))) (eVar 3)) (eBin oNe (eUn (oErF 25) (eErr 25 (aCons (eVar 3) aNil))) (eVar 3))) (sRet (eC (.bl false))) sNil))))))))))
def l_law_1 : En → Hea → SRes := (sSeq (sSet 2 (eCall c__law_pool (aCons (eVar 0) (aCons (eVar 1) aNil))))
  (sSeq (sForK [3] (iTmp (lDisp (aCons (eC .non) (aCons (eC (.int 7)) (aCons (eC (.str "word")) (aCons (eTup aNil) (aCons (eLst (lDisp (aCons (eC (.int 1)) aNil))) (aCons (eCall c__law_draw (aCons (eVar 2) (aCons (eBin oPow (eC (.int 10)) (eC (.int 30))) aNil))) aNil)))))))) (gN 3) l_law_0)
  (sIf (eUn oNot (eCall0 c__law_kinds_right)) (sRet (eC (.bl false))) sNil)))
def b_law : En → Hea → SRes := (sSeq (sForK [1, 2, 3] (iRng1V (aCons (eCB gMax2 (aCons (eC (.int 1)) (aCons (eCB gMin2 (aCons (eIt gLen (eVar 0)) (aCons (eC (.int 2)) aNil))) aNil))) aNil)) (gN 1) l_law_1)
  (sRet (eC (.bl true))))
def c_law : List Val → Hea → Res Val := runB 1 4 b_law
/-- the plain law: every script of at most 63 ints gives True -/
def Plain : Prop := ∀ ns : List Int, ns.length ≤ 63 → ∃ h, c_law [.ref 0] [.fro ns] = .ok (.bl true) h
end K22
end
section
set_option maxRecDepth 100000
set_option maxHeartbeats 1000000
namespace K22
open PySem L2 Lad
theorem ini_BadNumber : InitOk e_BadNumber.st e_BadNumber.fld := ⟨⟨_, _, _, _, _, _, _, _, _, _, _, _, rfl, fun env => ⟨_, rfl⟩⟩, ⟨_, _, rfl⟩, by decide +kernel, rfl, rfl, rfl, by decide +kernel, by decide +kernel, by decide +kernel, by decide +kernel, by decide +kernel, by decide +kernel⟩
theorem ini_BadBook : InitOk e_BadBook.st e_BadBook.fld := ⟨⟨_, _, _, _, _, _, _, _, _, _, _, _, rfl, fun env => ⟨_, rfl⟩⟩, ⟨_, _, rfl⟩, by decide +kernel, rfl, rfl, rfl, by decide +kernel, by decide +kernel, by decide +kernel, by decide +kernel, by decide +kernel, by decide +kernel⟩
theorem ini_BadPlace : InitOk e_BadPlace.st e_BadPlace.fld := ⟨⟨_, _, _, _, _, _, _, _, _, _, _, _, rfl, fun env => ⟨_, rfl⟩⟩, ⟨_, _, rfl⟩, by decide +kernel, rfl, rfl, rfl, by decide +kernel, by decide +kernel, by decide +kernel, by decide +kernel, by decide +kernel, by decide +kernel⟩
theorem ini_BadGame : InitOk e_BadGame.st e_BadGame.fld := ⟨⟨_, _, _, _, _, _, _, _, _, _, _, _, rfl, fun env => ⟨_, rfl⟩⟩, ⟨_, _, rfl⟩, by decide +kernel, rfl, rfl, rfl, by decide +kernel, by decide +kernel, by decide +kernel, by decide +kernel, by decide +kernel, by decide +kernel⟩
theorem ini_BadMove : InitOk e_BadMove.st e_BadMove.fld := ⟨⟨_, _, _, _, _, _, _, _, _, _, _, _, rfl, fun env => ⟨_, rfl⟩⟩, ⟨_, _, rfl⟩, by decide +kernel, rfl, rfl, rfl, by decide +kernel, by decide +kernel, by decide +kernel, by decide +kernel, by decide +kernel, by decide +kernel⟩
theorem ini_BadLot : InitOk e_BadLot.st e_BadLot.fld := ⟨⟨_, _, _, _, _, _, _, _, _, _, _, _, rfl, fun env => ⟨_, rfl⟩⟩, ⟨_, _, rfl⟩, by decide +kernel, rfl, rfl, rfl, by decide +kernel, by decide +kernel, by decide +kernel, by decide +kernel, by decide +kernel, by decide +kernel⟩
theorem ini_BadWorths : InitOk e_BadWorths.st e_BadWorths.fld := ⟨⟨_, _, _, _, _, _, _, _, _, _, _, _, rfl, fun env => ⟨_, rfl⟩⟩, ⟨_, _, rfl⟩, by decide +kernel, rfl, rfl, rfl, by decide +kernel, by decide +kernel, by decide +kernel, by decide +kernel, by decide +kernel, by decide +kernel⟩
theorem ini_BadGoal : InitOk e_BadGoal.st e_BadGoal.fld := ⟨⟨_, _, _, _, _, _, _, _, _, _, _, _, rfl, fun env => ⟨_, rfl⟩⟩, ⟨_, _, rfl⟩, by decide +kernel, rfl, rfl, rfl, by decide +kernel, by decide +kernel, by decide +kernel, by decide +kernel, by decide +kernel, by decide +kernel⟩
theorem ini_BadHand : InitOk e_BadHand.st e_BadHand.fld := ⟨⟨_, _, _, _, _, _, _, _, _, _, _, _, rfl, fun env => ⟨_, rfl⟩⟩, ⟨_, _, rfl⟩, by decide +kernel, rfl, rfl, rfl, by decide +kernel, by decide +kernel, by decide +kernel, by decide +kernel, by decide +kernel, by decide +kernel⟩
theorem ini_BadHonest : InitOk e_BadHonest.st e_BadHonest.fld := ⟨⟨_, _, _, _, _, _, _, _, _, _, _, _, rfl, fun env => ⟨_, rfl⟩⟩, ⟨_, _, rfl⟩, by decide +kernel, rfl, rfl, rfl, by decide +kernel, by decide +kernel, by decide +kernel, by decide +kernel, by decide +kernel, by decide +kernel⟩
theorem ini_BadGames : InitOk e_BadGames.st e_BadGames.fld := ⟨⟨_, _, _, _, _, _, _, _, _, _, _, _, rfl, fun env => ⟨_, rfl⟩⟩, ⟨_, _, rfl⟩, by decide +kernel, rfl, rfl, rfl, by decide +kernel, by decide +kernel, by decide +kernel, by decide +kernel, by decide +kernel, by decide +kernel⟩
theorem ini_BadBout : InitOk e_BadBout.st e_BadBout.fld := ⟨⟨_, _, _, _, _, _, _, _, _, _, _, _, rfl, fun env => ⟨_, rfl⟩⟩, ⟨_, _, rfl⟩, by decide +kernel, rfl, rfl, rfl, by decide +kernel, by decide +kernel, by decide +kernel, by decide +kernel, by decide +kernel, by decide +kernel⟩
theorem ini_BadRow : InitOk e_BadRow.st e_BadRow.fld := ⟨⟨_, _, _, _, _, _, _, _, _, _, _, _, rfl, fun env => ⟨_, rfl⟩⟩, ⟨_, _, rfl⟩, by decide +kernel, rfl, rfl, rfl, by decide +kernel, by decide +kernel, by decide +kernel, by decide +kernel, by decide +kernel, by decide +kernel⟩
theorem ini_BadChances : InitOk e_BadChances.st e_BadChances.fld := ⟨⟨_, _, _, _, _, _, _, _, _, _, _, _, rfl, fun env => ⟨_, rfl⟩⟩, ⟨_, _, rfl⟩, by decide +kernel, rfl, rfl, rfl, by decide +kernel, by decide +kernel, by decide +kernel, by decide +kernel, by decide +kernel, by decide +kernel⟩
theorem ini_BadOpponent : InitOk e_BadOpponent.st e_BadOpponent.fld := ⟨⟨_, _, _, _, _, _, _, _, _, _, _, _, rfl, fun env => ⟨_, rfl⟩⟩, ⟨_, _, rfl⟩, by decide +kernel, rfl, rfl, rfl, by decide +kernel, by decide +kernel, by decide +kernel, by decide +kernel, by decide +kernel, by decide +kernel⟩
theorem ini_BadPlan : InitOk e_BadPlan.st e_BadPlan.fld := ⟨⟨_, _, _, _, _, _, _, _, _, _, _, _, rfl, fun env => ⟨_, rfl⟩⟩, ⟨_, _, rfl⟩, by decide +kernel, rfl, rfl, rfl, by decide +kernel, by decide +kernel, by decide +kernel, by decide +kernel, by decide +kernel, by decide +kernel⟩
theorem ini_BadMenu : InitOk e_BadMenu.st e_BadMenu.fld := ⟨⟨_, _, _, _, _, _, _, _, _, _, _, _, rfl, fun env => ⟨_, rfl⟩⟩, ⟨_, _, rfl⟩, by decide +kernel, rfl, rfl, rfl, by decide +kernel, by decide +kernel, by decide +kernel, by decide +kernel, by decide +kernel, by decide +kernel⟩
theorem ini_BadChoice : InitOk e_BadChoice.st e_BadChoice.fld := ⟨⟨_, _, _, _, _, _, _, _, _, _, _, _, rfl, fun env => ⟨_, rfl⟩⟩, ⟨_, _, rfl⟩, by decide +kernel, rfl, rfl, rfl, by decide +kernel, by decide +kernel, by decide +kernel, by decide +kernel, by decide +kernel, by decide +kernel⟩
theorem ini_BadWish : InitOk e_BadWish.st e_BadWish.fld := ⟨⟨_, _, _, _, _, _, _, _, _, _, _, _, rfl, fun env => ⟨_, rfl⟩⟩, ⟨_, _, rfl⟩, by decide +kernel, rfl, rfl, rfl, by decide +kernel, by decide +kernel, by decide +kernel, by decide +kernel, by decide +kernel, by decide +kernel⟩
theorem ini_BadTold : InitOk e_BadTold.st e_BadTold.fld := ⟨⟨_, _, _, _, _, _, _, _, _, _, _, _, rfl, fun env => ⟨_, rfl⟩⟩, ⟨_, _, rfl⟩, by decide +kernel, rfl, rfl, rfl, by decide +kernel, by decide +kernel, by decide +kernel, by decide +kernel, by decide +kernel, by decide +kernel⟩
theorem ini_BadName : InitOk e_BadName.st e_BadName.fld := ⟨⟨_, _, _, _, _, _, _, _, _, _, _, _, rfl, fun env => ⟨_, rfl⟩⟩, ⟨_, _, rfl⟩, by decide +kernel, rfl, rfl, rfl, by decide +kernel, by decide +kernel, by decide +kernel, by decide +kernel, by decide +kernel, by decide +kernel⟩
theorem ini_BadText : InitOk e_BadText.st e_BadText.fld := ⟨⟨_, _, _, _, _, _, _, _, _, _, _, _, rfl, fun env => ⟨_, rfl⟩⟩, ⟨_, _, rfl⟩, by decide +kernel, rfl, rfl, rfl, by decide +kernel, by decide +kernel, by decide +kernel, by decide +kernel, by decide +kernel, by decide +kernel⟩
theorem ini_BadLine : InitOk e_BadLine.st e_BadLine.fld := ⟨⟨_, _, _, _, _, _, _, _, _, _, _, _, rfl, fun env => ⟨_, rfl⟩⟩, ⟨_, _, rfl⟩, by decide +kernel, rfl, rfl, rfl, by decide +kernel, by decide +kernel, by decide +kernel, by decide +kernel, by decide +kernel, by decide +kernel⟩
theorem ini_UnknownPlace : InitOk e_UnknownPlace.st e_UnknownPlace.fld := ⟨⟨_, _, _, _, _, _, _, _, _, _, _, _, rfl, fun env => ⟨_, rfl⟩⟩, ⟨_, _, rfl⟩, by decide +kernel, rfl, rfl, rfl, by decide +kernel, by decide +kernel, by decide +kernel, by decide +kernel, by decide +kernel, by decide +kernel⟩
theorem ini_TooMany : InitOk e_TooMany.st e_TooMany.fld := ⟨⟨_, _, _, _, _, _, _, _, _, _, _, _, rfl, fun env => ⟨_, rfl⟩⟩, ⟨_, _, rfl⟩, by decide +kernel, rfl, rfl, rfl, by decide +kernel, by decide +kernel, by decide +kernel, by decide +kernel, by decide +kernel, by decide +kernel⟩
theorem ini_NothingToUndo : InitOk e_NothingToUndo.st e_NothingToUndo.fld := ⟨⟨_, _, _, _, _, _, _, _, _, _, _, _, rfl, fun env => ⟨_, rfl⟩⟩, ⟨_, _, rfl⟩, by decide +kernel, rfl, rfl, rfl, by decide +kernel, by decide +kernel, by decide +kernel, by decide +kernel, by decide +kernel, by decide +kernel⟩
structure Txt (P : Program) (K : PySem.W.Frag) (mg : Str → Option Value) : Prop where
  z_KeyError : mg "KeyError" = none
  z_OverflowError : mg "OverflowError" = none
  z_RuntimeError : mg "RuntimeError" = none
  z_ValueError : mg "ValueError" = none
  z_abs : mg "abs" = none
  z_int : mg "int" = none
  z_isinstance : mg "isinstance" = none
  z_len : mg "len" = none
  z_max : mg "max" = none
  z_min : mg "min" = none
  z_range : mg "range" = none
  z_sum : mg "sum" = none
  F__law_pool : Fun K "_law_pool" "_law_pool" (top 29) (He.ga K "_law_pool") (fdOf K (He.ga K "_law_pool"))
  g__law_pool : mg "_law_pool" = some (.ref (He.ga K "_law_pool"))
  F__law_draw : Fun K "_law_draw" "_law_draw" (top 30) (He.ga K "_law_draw") (fdOf K (He.ga K "_law_draw"))
  g__law_draw : mg "_law_draw" = some (.ref (He.ga K "_law_draw"))
  F__law_kinds_right : Fun K "_law_kinds_right" "_law_kinds_right" (top 31) (He.ga K "_law_kinds_right") (fdOf K (He.ga K "_law_kinds_right"))
  g__law_kinds_right : mg "_law_kinds_right" = some (.ref (He.ga K "_law_kinds_right"))
  F__law_kept_too : Fun K "_law_kept_too" "_law_kept_too" (top 32) (He.ga K "_law_kept_too") (fdOf K (He.ga K "_law_kept_too"))
  g__law_kept_too : mg "_law_kept_too" = some (.ref (He.ga K "_law_kept_too"))
  F_law : Fun K "law" "law" (top 33) (He.ga K "law") (fdOf K (He.ga K "law"))
  g_law : mg "law" = some (.ref (He.ga K "law"))
  nl : noList K = true
  g_LadderError : mg "LadderError" = some (.ref ((TT K).ca 0))
  g_BadNumber : mg "BadNumber" = some (.ref ((TT K).ca 1))
  g_BadBook : mg "BadBook" = some (.ref ((TT K).ca 2))
  g_BadPlace : mg "BadPlace" = some (.ref ((TT K).ca 3))
  g_BadGame : mg "BadGame" = some (.ref ((TT K).ca 4))
  g_BadMove : mg "BadMove" = some (.ref ((TT K).ca 5))
  g_BadLot : mg "BadLot" = some (.ref ((TT K).ca 6))
  g_BadWorths : mg "BadWorths" = some (.ref ((TT K).ca 7))
  g_BadGoal : mg "BadGoal" = some (.ref ((TT K).ca 8))
  g_BadHand : mg "BadHand" = some (.ref ((TT K).ca 9))
  g_BadHonest : mg "BadHonest" = some (.ref ((TT K).ca 10))
  g_BadGames : mg "BadGames" = some (.ref ((TT K).ca 11))
  g_BadBout : mg "BadBout" = some (.ref ((TT K).ca 12))
  g_BadRow : mg "BadRow" = some (.ref ((TT K).ca 13))
  g_BadChances : mg "BadChances" = some (.ref ((TT K).ca 14))
  g_BadOpponent : mg "BadOpponent" = some (.ref ((TT K).ca 15))
  g_BadPlan : mg "BadPlan" = some (.ref ((TT K).ca 16))
  g_BadMenu : mg "BadMenu" = some (.ref ((TT K).ca 17))
  g_BadChoice : mg "BadChoice" = some (.ref ((TT K).ca 18))
  g_BadWish : mg "BadWish" = some (.ref ((TT K).ca 19))
  g_BadTold : mg "BadTold" = some (.ref ((TT K).ca 20))
  g_BadName : mg "BadName" = some (.ref ((TT K).ca 21))
  g_BadText : mg "BadText" = some (.ref ((TT K).ca 22))
  g_BadLine : mg "BadLine" = some (.ref ((TT K).ca 23))
  g_UnknownPlace : mg "UnknownPlace" = some (.ref ((TT K).ca 24))
  g_TooMany : mg "TooMany" = some (.ref ((TT K).ca 25))
  g_NothingToUndo : mg "NothingToUndo" = some (.ref ((TT K).ca 26))
  er_BadNumber : ExTxt P K e_BadNumber.st ((TT K).ca 1) (erI K e_BadNumber) (erCc K e_BadNumber) (erCda K e_BadNumber) (fdOf K (erI K e_BadNumber)) "ValueError" "ValueError.__new__" "ValueError.__init__" He.veBase ((TT K).fld 1)
  ek_BadNumber : ∀ (s : Shared) (x : Addr) (v : Value), BindsTo s (fdOf K (erI K e_BadNumber)) ⟨[.ref x], [((TT K).fld 1, v)]⟩ [("self", .ref x), ((TT K).fld 1, v)]
  xf_1 : XfC K ((TT K).ca 1) ∧ ExcC K ((TT K).ca 1)
  no_1 : PySem.W.findIn K (.ref ((TT K).ca 1)) "number" = some none
  er_BadBook : ExTxt P K e_BadBook.st ((TT K).ca 2) (erI K e_BadBook) (erCc K e_BadBook) (erCda K e_BadBook) (fdOf K (erI K e_BadBook)) "ValueError" "ValueError.__new__" "ValueError.__init__" He.veBase ((TT K).fld 2)
  ek_BadBook : ∀ (s : Shared) (x : Addr) (v : Value), BindsTo s (fdOf K (erI K e_BadBook)) ⟨[.ref x], [((TT K).fld 2, v)]⟩ [("self", .ref x), ((TT K).fld 2, v)]
  xf_2 : XfC K ((TT K).ca 2) ∧ ExcC K ((TT K).ca 2)
  no_2 : PySem.W.findIn K (.ref ((TT K).ca 2)) "part" = some none
  er_BadPlace : ExTxt P K e_BadPlace.st ((TT K).ca 3) (erI K e_BadPlace) (erCc K e_BadPlace) (erCda K e_BadPlace) (fdOf K (erI K e_BadPlace)) "ValueError" "ValueError.__new__" "ValueError.__init__" He.veBase ((TT K).fld 3)
  ek_BadPlace : ∀ (s : Shared) (x : Addr) (v : Value), BindsTo s (fdOf K (erI K e_BadPlace)) ⟨[.ref x], [((TT K).fld 3, v)]⟩ [("self", .ref x), ((TT K).fld 3, v)]
  xf_3 : XfC K ((TT K).ca 3) ∧ ExcC K ((TT K).ca 3)
  no_3 : PySem.W.findIn K (.ref ((TT K).ca 3)) "place" = some none
  er_BadGame : ExTxt P K e_BadGame.st ((TT K).ca 4) (erI K e_BadGame) (erCc K e_BadGame) (erCda K e_BadGame) (fdOf K (erI K e_BadGame)) "ValueError" "ValueError.__new__" "ValueError.__init__" He.veBase ((TT K).fld 4)
  ek_BadGame : ∀ (s : Shared) (x : Addr) (v : Value), BindsTo s (fdOf K (erI K e_BadGame)) ⟨[.ref x], [((TT K).fld 4, v)]⟩ [("self", .ref x), ((TT K).fld 4, v)]
  xf_4 : XfC K ((TT K).ca 4) ∧ ExcC K ((TT K).ca 4)
  no_4 : PySem.W.findIn K (.ref ((TT K).ca 4)) "value" = some none
  er_BadMove : ExTxt P K e_BadMove.st ((TT K).ca 5) (erI K e_BadMove) (erCc K e_BadMove) (erCda K e_BadMove) (fdOf K (erI K e_BadMove)) "ValueError" "ValueError.__new__" "ValueError.__init__" He.veBase ((TT K).fld 5)
  ek_BadMove : ∀ (s : Shared) (x : Addr) (v : Value), BindsTo s (fdOf K (erI K e_BadMove)) ⟨[.ref x], [((TT K).fld 5, v)]⟩ [("self", .ref x), ((TT K).fld 5, v)]
  xf_5 : XfC K ((TT K).ca 5) ∧ ExcC K ((TT K).ca 5)
  no_5 : PySem.W.findIn K (.ref ((TT K).ca 5)) "index" = some none
  er_BadLot : ExTxt P K e_BadLot.st ((TT K).ca 6) (erI K e_BadLot) (erCc K e_BadLot) (erCda K e_BadLot) (fdOf K (erI K e_BadLot)) "ValueError" "ValueError.__new__" "ValueError.__init__" He.veBase ((TT K).fld 6)
  ek_BadLot : ∀ (s : Shared) (x : Addr) (v : Value), BindsTo s (fdOf K (erI K e_BadLot)) ⟨[.ref x], [((TT K).fld 6, v)]⟩ [("self", .ref x), ((TT K).fld 6, v)]
  xf_6 : XfC K ((TT K).ca 6) ∧ ExcC K ((TT K).ca 6)
  no_6 : PySem.W.findIn K (.ref ((TT K).ca 6)) "place" = some none
  er_BadWorths : ExTxt P K e_BadWorths.st ((TT K).ca 7) (erI K e_BadWorths) (erCc K e_BadWorths) (erCda K e_BadWorths) (fdOf K (erI K e_BadWorths)) "ValueError" "ValueError.__new__" "ValueError.__init__" He.veBase ((TT K).fld 7)
  ek_BadWorths : ∀ (s : Shared) (x : Addr) (v : Value), BindsTo s (fdOf K (erI K e_BadWorths)) ⟨[.ref x], [((TT K).fld 7, v)]⟩ [("self", .ref x), ((TT K).fld 7, v)]
  xf_7 : XfC K ((TT K).ca 7) ∧ ExcC K ((TT K).ca 7)
  no_7 : PySem.W.findIn K (.ref ((TT K).ca 7)) "place" = some none
  er_BadGoal : ExTxt P K e_BadGoal.st ((TT K).ca 8) (erI K e_BadGoal) (erCc K e_BadGoal) (erCda K e_BadGoal) (fdOf K (erI K e_BadGoal)) "ValueError" "ValueError.__new__" "ValueError.__init__" He.veBase ((TT K).fld 8)
  ek_BadGoal : ∀ (s : Shared) (x : Addr) (v : Value), BindsTo s (fdOf K (erI K e_BadGoal)) ⟨[.ref x], [((TT K).fld 8, v)]⟩ [("self", .ref x), ((TT K).fld 8, v)]
  xf_8 : XfC K ((TT K).ca 8) ∧ ExcC K ((TT K).ca 8)
  no_8 : PySem.W.findIn K (.ref ((TT K).ca 8)) "part" = some none
  er_BadHand : ExTxt P K e_BadHand.st ((TT K).ca 9) (erI K e_BadHand) (erCc K e_BadHand) (erCda K e_BadHand) (fdOf K (erI K e_BadHand)) "ValueError" "ValueError.__new__" "ValueError.__init__" He.veBase ((TT K).fld 9)
  ek_BadHand : ∀ (s : Shared) (x : Addr) (v : Value), BindsTo s (fdOf K (erI K e_BadHand)) ⟨[.ref x], [((TT K).fld 9, v)]⟩ [("self", .ref x), ((TT K).fld 9, v)]
  xf_9 : XfC K ((TT K).ca 9) ∧ ExcC K ((TT K).ca 9)
  no_9 : PySem.W.findIn K (.ref ((TT K).ca 9)) "hand" = some none
  er_BadHonest : ExTxt P K e_BadHonest.st ((TT K).ca 10) (erI K e_BadHonest) (erCc K e_BadHonest) (erCda K e_BadHonest) (fdOf K (erI K e_BadHonest)) "ValueError" "ValueError.__new__" "ValueError.__init__" He.veBase ((TT K).fld 10)
  ek_BadHonest : ∀ (s : Shared) (x : Addr) (v : Value), BindsTo s (fdOf K (erI K e_BadHonest)) ⟨[.ref x], [((TT K).fld 10, v)]⟩ [("self", .ref x), ((TT K).fld 10, v)]
  xf_10 : XfC K ((TT K).ca 10) ∧ ExcC K ((TT K).ca 10)
  no_10 : PySem.W.findIn K (.ref ((TT K).ca 10)) "index" = some none
  er_BadGames : ExTxt P K e_BadGames.st ((TT K).ca 11) (erI K e_BadGames) (erCc K e_BadGames) (erCda K e_BadGames) (fdOf K (erI K e_BadGames)) "ValueError" "ValueError.__new__" "ValueError.__init__" He.veBase ((TT K).fld 11)
  ek_BadGames : ∀ (s : Shared) (x : Addr) (v : Value), BindsTo s (fdOf K (erI K e_BadGames)) ⟨[.ref x], [((TT K).fld 11, v)]⟩ [("self", .ref x), ((TT K).fld 11, v)]
  xf_11 : XfC K ((TT K).ca 11) ∧ ExcC K ((TT K).ca 11)
  no_11 : PySem.W.findIn K (.ref ((TT K).ca 11)) "number" = some none
  er_BadBout : ExTxt P K e_BadBout.st ((TT K).ca 12) (erI K e_BadBout) (erCc K e_BadBout) (erCda K e_BadBout) (fdOf K (erI K e_BadBout)) "ValueError" "ValueError.__new__" "ValueError.__init__" He.veBase ((TT K).fld 12)
  ek_BadBout : ∀ (s : Shared) (x : Addr) (v : Value), BindsTo s (fdOf K (erI K e_BadBout)) ⟨[.ref x], [((TT K).fld 12, v)]⟩ [("self", .ref x), ((TT K).fld 12, v)]
  xf_12 : XfC K ((TT K).ca 12) ∧ ExcC K ((TT K).ca 12)
  no_12 : PySem.W.findIn K (.ref ((TT K).ca 12)) "index" = some none
  er_BadRow : ExTxt P K e_BadRow.st ((TT K).ca 13) (erI K e_BadRow) (erCc K e_BadRow) (erCda K e_BadRow) (fdOf K (erI K e_BadRow)) "ValueError" "ValueError.__new__" "ValueError.__init__" He.veBase ((TT K).fld 13)
  ek_BadRow : ∀ (s : Shared) (x : Addr) (v : Value), BindsTo s (fdOf K (erI K e_BadRow)) ⟨[.ref x], [((TT K).fld 13, v)]⟩ [("self", .ref x), ((TT K).fld 13, v)]
  xf_13 : XfC K ((TT K).ca 13) ∧ ExcC K ((TT K).ca 13)
  no_13 : PySem.W.findIn K (.ref ((TT K).ca 13)) "index" = some none
  er_BadChances : ExTxt P K e_BadChances.st ((TT K).ca 14) (erI K e_BadChances) (erCc K e_BadChances) (erCda K e_BadChances) (fdOf K (erI K e_BadChances)) "ValueError" "ValueError.__new__" "ValueError.__init__" He.veBase ((TT K).fld 14)
  ek_BadChances : ∀ (s : Shared) (x : Addr) (v : Value), BindsTo s (fdOf K (erI K e_BadChances)) ⟨[.ref x], [((TT K).fld 14, v)]⟩ [("self", .ref x), ((TT K).fld 14, v)]
  xf_14 : XfC K ((TT K).ca 14) ∧ ExcC K ((TT K).ca 14)
  no_14 : PySem.W.findIn K (.ref ((TT K).ca 14)) "index" = some none
  er_BadOpponent : ExTxt P K e_BadOpponent.st ((TT K).ca 15) (erI K e_BadOpponent) (erCc K e_BadOpponent) (erCda K e_BadOpponent) (fdOf K (erI K e_BadOpponent)) "ValueError" "ValueError.__new__" "ValueError.__init__" He.veBase ((TT K).fld 15)
  ek_BadOpponent : ∀ (s : Shared) (x : Addr) (v : Value), BindsTo s (fdOf K (erI K e_BadOpponent)) ⟨[.ref x], [((TT K).fld 15, v)]⟩ [("self", .ref x), ((TT K).fld 15, v)]
  xf_15 : XfC K ((TT K).ca 15) ∧ ExcC K ((TT K).ca 15)
  no_15 : PySem.W.findIn K (.ref ((TT K).ca 15)) "index" = some none
  er_BadPlan : ExTxt P K e_BadPlan.st ((TT K).ca 16) (erI K e_BadPlan) (erCc K e_BadPlan) (erCda K e_BadPlan) (fdOf K (erI K e_BadPlan)) "ValueError" "ValueError.__new__" "ValueError.__init__" He.veBase ((TT K).fld 16)
  ek_BadPlan : ∀ (s : Shared) (x : Addr) (v : Value), BindsTo s (fdOf K (erI K e_BadPlan)) ⟨[.ref x], [((TT K).fld 16, v)]⟩ [("self", .ref x), ((TT K).fld 16, v)]
  xf_16 : XfC K ((TT K).ca 16) ∧ ExcC K ((TT K).ca 16)
  no_16 : PySem.W.findIn K (.ref ((TT K).ca 16)) "key" = some none
  er_BadMenu : ExTxt P K e_BadMenu.st ((TT K).ca 17) (erI K e_BadMenu) (erCc K e_BadMenu) (erCda K e_BadMenu) (fdOf K (erI K e_BadMenu)) "ValueError" "ValueError.__new__" "ValueError.__init__" He.veBase ((TT K).fld 17)
  ek_BadMenu : ∀ (s : Shared) (x : Addr) (v : Value), BindsTo s (fdOf K (erI K e_BadMenu)) ⟨[.ref x], [((TT K).fld 17, v)]⟩ [("self", .ref x), ((TT K).fld 17, v)]
  xf_17 : XfC K ((TT K).ca 17) ∧ ExcC K ((TT K).ca 17)
  no_17 : PySem.W.findIn K (.ref ((TT K).ca 17)) "index" = some none
  er_BadChoice : ExTxt P K e_BadChoice.st ((TT K).ca 18) (erI K e_BadChoice) (erCc K e_BadChoice) (erCda K e_BadChoice) (fdOf K (erI K e_BadChoice)) "ValueError" "ValueError.__new__" "ValueError.__init__" He.veBase ((TT K).fld 18)
  ek_BadChoice : ∀ (s : Shared) (x : Addr) (v : Value), BindsTo s (fdOf K (erI K e_BadChoice)) ⟨[.ref x], [((TT K).fld 18, v)]⟩ [("self", .ref x), ((TT K).fld 18, v)]
  xf_18 : XfC K ((TT K).ca 18) ∧ ExcC K ((TT K).ca 18)
  no_18 : PySem.W.findIn K (.ref ((TT K).ca 18)) "choice" = some none
  er_BadWish : ExTxt P K e_BadWish.st ((TT K).ca 19) (erI K e_BadWish) (erCc K e_BadWish) (erCda K e_BadWish) (fdOf K (erI K e_BadWish)) "ValueError" "ValueError.__new__" "ValueError.__init__" He.veBase ((TT K).fld 19)
  ek_BadWish : ∀ (s : Shared) (x : Addr) (v : Value), BindsTo s (fdOf K (erI K e_BadWish)) ⟨[.ref x], [((TT K).fld 19, v)]⟩ [("self", .ref x), ((TT K).fld 19, v)]
  xf_19 : XfC K ((TT K).ca 19) ∧ ExcC K ((TT K).ca 19)
  no_19 : PySem.W.findIn K (.ref ((TT K).ca 19)) "index" = some none
  er_BadTold : ExTxt P K e_BadTold.st ((TT K).ca 20) (erI K e_BadTold) (erCc K e_BadTold) (erCda K e_BadTold) (fdOf K (erI K e_BadTold)) "ValueError" "ValueError.__new__" "ValueError.__init__" He.veBase ((TT K).fld 20)
  ek_BadTold : ∀ (s : Shared) (x : Addr) (v : Value), BindsTo s (fdOf K (erI K e_BadTold)) ⟨[.ref x], [((TT K).fld 20, v)]⟩ [("self", .ref x), ((TT K).fld 20, v)]
  xf_20 : XfC K ((TT K).ca 20) ∧ ExcC K ((TT K).ca 20)
  no_20 : PySem.W.findIn K (.ref ((TT K).ca 20)) "index" = some none
  er_BadName : ExTxt P K e_BadName.st ((TT K).ca 21) (erI K e_BadName) (erCc K e_BadName) (erCda K e_BadName) (fdOf K (erI K e_BadName)) "ValueError" "ValueError.__new__" "ValueError.__init__" He.veBase ((TT K).fld 21)
  ek_BadName : ∀ (s : Shared) (x : Addr) (v : Value), BindsTo s (fdOf K (erI K e_BadName)) ⟨[.ref x], [((TT K).fld 21, v)]⟩ [("self", .ref x), ((TT K).fld 21, v)]
  xf_21 : XfC K ((TT K).ca 21) ∧ ExcC K ((TT K).ca 21)
  no_21 : PySem.W.findIn K (.ref ((TT K).ca 21)) "name" = some none
  er_BadText : ExTxt P K e_BadText.st ((TT K).ca 22) (erI K e_BadText) (erCc K e_BadText) (erCda K e_BadText) (fdOf K (erI K e_BadText)) "ValueError" "ValueError.__new__" "ValueError.__init__" He.veBase ((TT K).fld 22)
  ek_BadText : ∀ (s : Shared) (x : Addr) (v : Value), BindsTo s (fdOf K (erI K e_BadText)) ⟨[.ref x], [((TT K).fld 22, v)]⟩ [("self", .ref x), ((TT K).fld 22, v)]
  xf_22 : XfC K ((TT K).ca 22) ∧ ExcC K ((TT K).ca 22)
  no_22 : PySem.W.findIn K (.ref ((TT K).ca 22)) "index" = some none
  er_BadLine : ExTxt P K e_BadLine.st ((TT K).ca 23) (erI K e_BadLine) (erCc K e_BadLine) (erCda K e_BadLine) (fdOf K (erI K e_BadLine)) "ValueError" "ValueError.__new__" "ValueError.__init__" He.veBase ((TT K).fld 23)
  ek_BadLine : ∀ (s : Shared) (x : Addr) (v : Value), BindsTo s (fdOf K (erI K e_BadLine)) ⟨[.ref x], [((TT K).fld 23, v)]⟩ [("self", .ref x), ((TT K).fld 23, v)]
  xf_23 : XfC K ((TT K).ca 23) ∧ ExcC K ((TT K).ca 23)
  no_23 : PySem.W.findIn K (.ref ((TT K).ca 23)) "line" = some none
  er_UnknownPlace : ExTxt P K e_UnknownPlace.st ((TT K).ca 24) (erI K e_UnknownPlace) (erCc K e_UnknownPlace) (erCda K e_UnknownPlace) (fdOf K (erI K e_UnknownPlace)) "KeyError" "LookupError.__new__" "KeyError.__init__" keBase ((TT K).fld 24)
  ek_UnknownPlace : ∀ (s : Shared) (x : Addr) (v : Value), BindsTo s (fdOf K (erI K e_UnknownPlace)) ⟨[.ref x], [((TT K).fld 24, v)]⟩ [("self", .ref x), ((TT K).fld 24, v)]
  xf_24 : XfC K ((TT K).ca 24) ∧ ExcC K ((TT K).ca 24)
  no_24 : PySem.W.findIn K (.ref ((TT K).ca 24)) "place" = some none
  er_TooMany : ExTxt P K e_TooMany.st ((TT K).ca 25) (erI K e_TooMany) (erCc K e_TooMany) (erCda K e_TooMany) (fdOf K (erI K e_TooMany)) "OverflowError" "OverflowError.__new__" "OverflowError.__init__" oeBase ((TT K).fld 25)
  ek_TooMany : ∀ (s : Shared) (x : Addr) (v : Value), BindsTo s (fdOf K (erI K e_TooMany)) ⟨[.ref x], [((TT K).fld 25, v)]⟩ [("self", .ref x), ((TT K).fld 25, v)]
  xf_25 : XfC K ((TT K).ca 25) ∧ ExcC K ((TT K).ca 25)
  no_25 : PySem.W.findIn K (.ref ((TT K).ca 25)) "limit" = some none
  er_NothingToUndo : ExTxt P K e_NothingToUndo.st ((TT K).ca 26) (erI K e_NothingToUndo) (erCc K e_NothingToUndo) (erCda K e_NothingToUndo) (fdOf K (erI K e_NothingToUndo)) "RuntimeError" "RuntimeError.__new__" "RuntimeError.__init__" [.type "RuntimeError", .type "Exception", .type "BaseException", .type "object"] ((TT K).fld 26)
  ek_NothingToUndo : ∀ (s : Shared) (x : Addr) (v : Value), BindsTo s (fdOf K (erI K e_NothingToUndo)) ⟨[.ref x], [((TT K).fld 26, v)]⟩ [("self", .ref x), ((TT K).fld 26, v)]
  xf_26 : XfC K ((TT K).ca 26) ∧ ExcC K ((TT K).ca 26)
  no_26 : PySem.W.findIn K (.ref ((TT K).ca 26)) "name" = some none
  kit_1_LadderError : PySem.W.kitOne K (.ref ((TT K).ca 1)) (.ref ((TT K).ca 0)) = some true
  kit_1_ValueError : PySem.W.kitOne K (.ref ((TT K).ca 1)) (.type "ValueError") = some true
  kit_2_BadPlace : PySem.W.kitOne K (.ref ((TT K).ca 2)) (.ref ((TT K).ca 3)) = some false
  kit_2_LadderError : PySem.W.kitOne K (.ref ((TT K).ca 2)) (.ref ((TT K).ca 0)) = some true
  kit_2_ValueError : PySem.W.kitOne K (.ref ((TT K).ca 2)) (.type "ValueError") = some true
  kit_3_BadBook : PySem.W.kitOne K (.ref ((TT K).ca 3)) (.ref ((TT K).ca 2)) = some false
  kit_3_LadderError : PySem.W.kitOne K (.ref ((TT K).ca 3)) (.ref ((TT K).ca 0)) = some true
  kit_3_ValueError : PySem.W.kitOne K (.ref ((TT K).ca 3)) (.type "ValueError") = some true
  kit_4_LadderError : PySem.W.kitOne K (.ref ((TT K).ca 4)) (.ref ((TT K).ca 0)) = some true
  kit_4_ValueError : PySem.W.kitOne K (.ref ((TT K).ca 4)) (.type "ValueError") = some true
  kit_5_LadderError : PySem.W.kitOne K (.ref ((TT K).ca 5)) (.ref ((TT K).ca 0)) = some true
  kit_5_ValueError : PySem.W.kitOne K (.ref ((TT K).ca 5)) (.type "ValueError") = some true
  kit_6_LadderError : PySem.W.kitOne K (.ref ((TT K).ca 6)) (.ref ((TT K).ca 0)) = some true
  kit_6_ValueError : PySem.W.kitOne K (.ref ((TT K).ca 6)) (.type "ValueError") = some true
  kit_7_LadderError : PySem.W.kitOne K (.ref ((TT K).ca 7)) (.ref ((TT K).ca 0)) = some true
  kit_7_ValueError : PySem.W.kitOne K (.ref ((TT K).ca 7)) (.type "ValueError") = some true
  kit_8_LadderError : PySem.W.kitOne K (.ref ((TT K).ca 8)) (.ref ((TT K).ca 0)) = some true
  kit_8_ValueError : PySem.W.kitOne K (.ref ((TT K).ca 8)) (.type "ValueError") = some true
  kit_9_LadderError : PySem.W.kitOne K (.ref ((TT K).ca 9)) (.ref ((TT K).ca 0)) = some true
  kit_9_ValueError : PySem.W.kitOne K (.ref ((TT K).ca 9)) (.type "ValueError") = some true
  kit_10_BadHand : PySem.W.kitOne K (.ref ((TT K).ca 10)) (.ref ((TT K).ca 9)) = some false
  kit_10_LadderError : PySem.W.kitOne K (.ref ((TT K).ca 10)) (.ref ((TT K).ca 0)) = some true
  kit_10_ValueError : PySem.W.kitOne K (.ref ((TT K).ca 10)) (.type "ValueError") = some true
  kit_11_BadGame : PySem.W.kitOne K (.ref ((TT K).ca 11)) (.ref ((TT K).ca 4)) = some false
  kit_11_LadderError : PySem.W.kitOne K (.ref ((TT K).ca 11)) (.ref ((TT K).ca 0)) = some true
  kit_11_ValueError : PySem.W.kitOne K (.ref ((TT K).ca 11)) (.type "ValueError") = some true
  kit_12_LadderError : PySem.W.kitOne K (.ref ((TT K).ca 12)) (.ref ((TT K).ca 0)) = some true
  kit_12_ValueError : PySem.W.kitOne K (.ref ((TT K).ca 12)) (.type "ValueError") = some true
  kit_13_BadBout : PySem.W.kitOne K (.ref ((TT K).ca 13)) (.ref ((TT K).ca 12)) = some false
  kit_13_LadderError : PySem.W.kitOne K (.ref ((TT K).ca 13)) (.ref ((TT K).ca 0)) = some true
  kit_13_ValueError : PySem.W.kitOne K (.ref ((TT K).ca 13)) (.type "ValueError") = some true
  kit_14_LadderError : PySem.W.kitOne K (.ref ((TT K).ca 14)) (.ref ((TT K).ca 0)) = some true
  kit_14_ValueError : PySem.W.kitOne K (.ref ((TT K).ca 14)) (.type "ValueError") = some true
  kit_15_LadderError : PySem.W.kitOne K (.ref ((TT K).ca 15)) (.ref ((TT K).ca 0)) = some true
  kit_15_ValueError : PySem.W.kitOne K (.ref ((TT K).ca 15)) (.type "ValueError") = some true
  kit_16_LadderError : PySem.W.kitOne K (.ref ((TT K).ca 16)) (.ref ((TT K).ca 0)) = some true
  kit_16_ValueError : PySem.W.kitOne K (.ref ((TT K).ca 16)) (.type "ValueError") = some true
  kit_17_LadderError : PySem.W.kitOne K (.ref ((TT K).ca 17)) (.ref ((TT K).ca 0)) = some true
  kit_17_ValueError : PySem.W.kitOne K (.ref ((TT K).ca 17)) (.type "ValueError") = some true
  kit_18_LadderError : PySem.W.kitOne K (.ref ((TT K).ca 18)) (.ref ((TT K).ca 0)) = some true
  kit_18_ValueError : PySem.W.kitOne K (.ref ((TT K).ca 18)) (.type "ValueError") = some true
  kit_19_LadderError : PySem.W.kitOne K (.ref ((TT K).ca 19)) (.ref ((TT K).ca 0)) = some true
  kit_19_ValueError : PySem.W.kitOne K (.ref ((TT K).ca 19)) (.type "ValueError") = some true
  kit_20_BadText : PySem.W.kitOne K (.ref ((TT K).ca 20)) (.ref ((TT K).ca 22)) = some false
  kit_20_LadderError : PySem.W.kitOne K (.ref ((TT K).ca 20)) (.ref ((TT K).ca 0)) = some true
  kit_20_ValueError : PySem.W.kitOne K (.ref ((TT K).ca 20)) (.type "ValueError") = some true
  kit_21_LadderError : PySem.W.kitOne K (.ref ((TT K).ca 21)) (.ref ((TT K).ca 0)) = some true
  kit_21_ValueError : PySem.W.kitOne K (.ref ((TT K).ca 21)) (.type "ValueError") = some true
  kit_22_LadderError : PySem.W.kitOne K (.ref ((TT K).ca 22)) (.ref ((TT K).ca 0)) = some true
  kit_22_ValueError : PySem.W.kitOne K (.ref ((TT K).ca 22)) (.type "ValueError") = some true
  kit_23_LadderError : PySem.W.kitOne K (.ref ((TT K).ca 23)) (.ref ((TT K).ca 0)) = some true
  kit_23_ValueError : PySem.W.kitOne K (.ref ((TT K).ca 23)) (.type "ValueError") = some true
  kit_24_KeyError : PySem.W.kitOne K (.ref ((TT K).ca 24)) (.type "KeyError") = some true
  kit_24_LadderError : PySem.W.kitOne K (.ref ((TT K).ca 24)) (.ref ((TT K).ca 0)) = some false
  kit_24_ValueError : PySem.W.kitOne K (.ref ((TT K).ca 24)) (.type "ValueError") = some false
  kit_25_LadderError : PySem.W.kitOne K (.ref ((TT K).ca 25)) (.ref ((TT K).ca 0)) = some false
  kit_25_OverflowError : PySem.W.kitOne K (.ref ((TT K).ca 25)) (.type "OverflowError") = some true
  kit_25_ValueError : PySem.W.kitOne K (.ref ((TT K).ca 25)) (.type "ValueError") = some false
  kit_26_LadderError : PySem.W.kitOne K (.ref ((TT K).ca 26)) (.ref ((TT K).ca 0)) = some false
  kit_26_RuntimeError : PySem.W.kitOne K (.ref ((TT K).ca 26)) (.type "RuntimeError") = some true
  kit_26_ValueError : PySem.W.kitOne K (.ref ((TT K).ca 26)) (.type "ValueError") = some false
abbrev N__law_pool : List Str := ["_law_script", "_law_k", "_law_cell", "_law_size", "_law_mixed"]
theorem sc__law_pool : FnScope N__law_pool ["_law_script", "_law_k"] (defScope (top 29)) := ⟨rfl, rfl, rfl, by decide +kernel, rfl, by decide +kernel, by decide +kernel⟩
abbrev N__law_draw : List Str := ["_law_pool_here", "_law_many", "_law_found"]
theorem sc__law_draw : FnScope N__law_draw ["_law_pool_here", "_law_many"] (defScope (top 30)) := ⟨rfl, rfl, rfl, by decide +kernel, rfl, by decide +kernel, by decide +kernel⟩
abbrev N__law_kinds_right : List Str := ["_law_some", "_law_error"]
theorem sc__law_kinds_right : FnScope N__law_kinds_right [] (defScope (top 31)) := ⟨rfl, rfl, rfl, by decide +kernel, rfl, by decide +kernel, by decide +kernel⟩
abbrev N__law_kept_too : List Str := ["_law_given"]
theorem sc__law_kept_too : FnScope N__law_kept_too ["_law_given"] (defScope (top 32)) := ⟨rfl, rfl, rfl, by decide +kernel, rfl, by decide +kernel, by decide +kernel⟩
abbrev N_law : List Str := ["_law_script", "_law_k", "_law_pool_here", "_law_given"]
theorem sc_law : FnScope N_law ["_law_script"] (defScope (top 33)) := ⟨rfl, rfl, rfl, by decide +kernel, rfl, by decide +kernel, by decide +kernel⟩
section
variable {P : Program} {w : World} {K : PySem.W.Frag} {mg : Str → Option Value} {base : Heap}
theorem ok__law_pool (t : Txt P K mg) : FnOk P w K mg base (L2.CX P w) 1 (He.ga K "_law_pool") (fdOf K (He.ga K "_law_pool")) ["_law_script", "_law_k"] (spEv ⟨K, (TT K).ca, (TT K).nm, (TT K).fld, P, w, (TT K).ex⟩ c__law_pool) :=
  fn_ok (T := TT K) finK_ok t.F__law_pool sc__law_pool fun cdv A outer s H E hr => (ss_cons (st_set (i := 2) sc__law_pool.nd rfl (Or.inl rfl) (se_if (st_cmp o_lt (se_var (pv 1)) (se_it g_len t.z_len (by decide +kernel) (se_var (pv 0))) (nomark _)) (se_ix (se_var (pv 0)) (se_var (pv 1))) (se_bin o_add (se_bin o_mul se_int (se_ilL (g_sum rfl) t.z_sum (by decide +kernel) (sl_cut (se_var (pv 0)) so_none (so_some se_int)))) (se_var (pv 1)))))
  (ss_cons (st_set (i := 3) sc__law_pool.nd rfl (Or.inl rfl) (se_cb g_abs t.z_abs (by decide +kernel) (sa_cons (se_var (pv 2)) sa_nil)))
  (ss_cons (st_set (i := 4) sc__law_pool.nd rfl (Or.inl rfl) (se_bin o_add (se_bin o_add (se_bin o_add (se_bin o_mod (se_ct g_int t.z_int (by decide +kernel) (sa_cons (se_var (pv 3)) sa_nil)) se_int) (se_bin o_mul (se_bin o_mul se_int (se_var (pv 1))) (se_var (pv 1)))) (se_bin o_mul se_int (se_var (pv 1)))) se_int))
  (ss_cons (st_set (i := 4) sc__law_pool.nd rfl (Or.inl rfl) (se_bin o_mod (se_ct g_int t.z_int (by decide +kernel) (sa_cons (se_bin o_mul (se_var (pv 4)) se_int) sa_nil)) se_int))
  (ss_one (st_ret (se_new (sl_lst (sa_cons (se_bin o_mul (se_var (pv 3)) (se_ct g_int t.z_int (by decide +kernel) (sa_cons (se_cmp o_ge (se_var (pv 3)) (se_bin o_pow se_int se_int) (nomark _)) sa_nil))) (sa_cons (se_bin o_mod (se_ct g_int t.z_int (by decide +kernel) (sa_cons (se_bin o_mul (se_var (pv 4)) (se_var (pv 4))) sa_nil)) se_int) sa_nil))))))))))
theorem ok__law_draw (t : Txt P K mg) : FnOk P w K mg base (L2.CX P w) 1 (He.ga K "_law_draw") (fdOf K (He.ga K "_law_draw")) ["_law_pool_here", "_law_many"] (spEv ⟨K, (TT K).ca, (TT K).nm, (TT K).fld, P, w, (TT K).ex⟩ c__law_draw) :=
  fn_ok (T := TT K) fin_ok t.F__law_draw sc__law_draw fun cdv A outer s H E hr => (ss_cons (st_if (st_cmp o_gt (se_ix (se_var (pv 0)) se_int) se_int (nomark _)) (ss_cons (st_set (i := 2) sc__law_draw.nd rfl (Or.inl rfl) (se_bin o_mod (se_ct g_int t.z_int (by decide +kernel) (sa_cons (se_ix (se_var (pv 0)) se_int) sa_nil)) (se_var (pv 1))))
  (ss_cons (st_setIx (se_bin o_div (se_ix (se_var (pv 0)) se_int) (se_var (pv 1))) (se_var (pv 0)) se_int)
  (ss_one (st_ret (se_var (pv 2)))))) ss_nil)
  (ss_cons (st_setIx (se_bin o_mod (se_ct g_int t.z_int (by decide +kernel) (sa_cons (se_bin o_add (se_bin o_mul (se_ix (se_var (pv 0)) se_int) se_int) se_int) sa_nil)) se_int) (se_var (pv 0)) se_int)
  (ss_one (st_ret (se_bin o_mod (se_ct g_int t.z_int (by decide +kernel) (sa_cons (se_bin o_div (se_bin o_mod (se_ct g_int t.z_int (by decide +kernel) (sa_cons (se_bin o_mul (se_ix (se_var (pv 0)) se_int) (se_ix (se_var (pv 0)) se_int)) sa_nil)) se_int) se_int) sa_nil)) (se_var (pv 1)))))))
theorem ok__law_kinds_right (t : Txt P K mg) : FnOk P w K mg base (L2.CX P w) 1 (He.ga K "_law_kinds_right") (fdOf K (He.ga K "_law_kinds_right")) [] (spEv ⟨K, (TT K).ca, (TT K).nm, (TT K).fld, P, w, (TT K).ex⟩ c__law_kinds_right) :=
  fn_ok (T := TT K) fin_ok t.F__law_kinds_right sc__law_kinds_right fun cdv A outer s H E hr => (ss_cons (st_set (i := 0) sc__law_kinds_right.nd rfl (Or.inl rfl) (se_lst (sl_lst (sa_cons (se_err (c := 1) t.er_BadNumber hr t.g_BadNumber (sa_cons se_int sa_nil)) (sa_cons (se_err (c := 2) t.er_BadBook hr t.g_BadBook (sa_cons se_int sa_nil)) (sa_cons (se_err (c := 3) t.er_BadPlace hr t.g_BadPlace (sa_cons se_int sa_nil)) (sa_cons (se_err (c := 4) t.er_BadGame hr t.g_BadGame (sa_cons se_int sa_nil)) (sa_cons (se_err (c := 5) t.er_BadMove hr t.g_BadMove (sa_cons se_int sa_nil)) (sa_cons (se_err (c := 6) t.er_BadLot hr t.g_BadLot (sa_cons se_int sa_nil)) sa_nil)))))))))
  (ss_cons (st_set (i := 0) sc__law_kinds_right.nd rfl (Or.inl rfl) (se_bin o_add (se_var (pv 0)) (se_lst (sl_lst (sa_cons (se_err (c := 7) t.er_BadWorths hr t.g_BadWorths (sa_cons se_int sa_nil)) (sa_cons (se_err (c := 19) t.er_BadWish hr t.g_BadWish (sa_cons se_int sa_nil)) (sa_cons (se_err (c := 23) t.er_BadLine hr t.g_BadLine (sa_cons se_int sa_nil)) (sa_cons (se_err (c := 8) t.er_BadGoal hr t.g_BadGoal (sa_cons se_int sa_nil)) (sa_cons (se_err (c := 9) t.er_BadHand hr t.g_BadHand (sa_cons se_int sa_nil)) (sa_cons (se_err (c := 10) t.er_BadHonest hr t.g_BadHonest (sa_cons se_int sa_nil)) sa_nil))))))))))
  (ss_cons (st_set (i := 0) sc__law_kinds_right.nd rfl (Or.inl rfl) (se_bin o_add (se_var (pv 0)) (se_lst (sl_lst (sa_cons (se_err (c := 11) t.er_BadGames hr t.g_BadGames (sa_cons se_int sa_nil)) (sa_cons (se_err (c := 12) t.er_BadBout hr t.g_BadBout (sa_cons se_int sa_nil)) (sa_cons (se_err (c := 13) t.er_BadRow hr t.g_BadRow (sa_cons se_int sa_nil)) (sa_cons (se_err (c := 14) t.er_BadChances hr t.g_BadChances (sa_cons se_int sa_nil)) (sa_cons (se_err (c := 15) t.er_BadOpponent hr t.g_BadOpponent (sa_cons se_int sa_nil)) sa_nil)))))))))
  (ss_cons (st_set (i := 0) sc__law_kinds_right.nd rfl (Or.inl rfl) (se_bin o_add (se_var (pv 0)) (se_lst (sl_lst (sa_cons (se_err (c := 16) t.er_BadPlan hr t.g_BadPlan (sa_cons se_int sa_nil)) (sa_cons (se_err (c := 17) t.er_BadMenu hr t.g_BadMenu (sa_cons se_int sa_nil)) (sa_cons (se_err (c := 18) t.er_BadChoice hr t.g_BadChoice (sa_cons se_int sa_nil)) (sa_cons (se_err (c := 20) t.er_BadTold hr t.g_BadTold (sa_cons se_int sa_nil)) (sa_cons (se_err (c := 21) t.er_BadName hr t.g_BadName (sa_cons se_int sa_nil)) (sa_cons (se_err (c := 22) t.er_BadText hr t.g_BadText (sa_cons se_int sa_nil)) sa_nil))))))))))
  (ss_cons (st_for (passes_of rfl) rfl (si_seq (se_var (pv 0))) (pg_name (i := 1) sc__law_kinds_right.nd rfl (Or.inl rfl)) (gok_name (vs := [1]) (by simp)) (ss_one (st_if (st_bool (sw_or (st_not (st_val (se_isE (tab := tE_LadderError_0) (cv := .ref ((TT K).ca 0)) t.z_isinstance (se_var (pv 1)) (pe_glob (v := .ref ((TT K).ca 0)) rfl t.g_LadderError rfl) (fun _ h => h) (fun c b h => match c, h with | 0, h => nomatch h | 1, h => by cases h; exact ⟨t.xf_1.2, t.kit_1_LadderError⟩ | 2, h => by cases h; exact ⟨t.xf_2.2, t.kit_2_LadderError⟩ | 3, h => by cases h; exact ⟨t.xf_3.2, t.kit_3_LadderError⟩ | 4, h => by cases h; exact ⟨t.xf_4.2, t.kit_4_LadderError⟩ | 5, h => by cases h; exact ⟨t.xf_5.2, t.kit_5_LadderError⟩ | 6, h => by cases h; exact ⟨t.xf_6.2, t.kit_6_LadderError⟩ | 7, h => by cases h; exact ⟨t.xf_7.2, t.kit_7_LadderError⟩ | 8, h => by cases h; exact ⟨t.xf_8.2, t.kit_8_LadderError⟩ | 9, h => by cases h; exact ⟨t.xf_9.2, t.kit_9_LadderError⟩ | 10, h => by cases h; exact ⟨t.xf_10.2, t.kit_10_LadderError⟩ | 11, h => by cases h; exact ⟨t.xf_11.2, t.kit_11_LadderError⟩ | 12, h => by cases h; exact ⟨t.xf_12.2, t.kit_12_LadderError⟩ | 13, h => by cases h; exact ⟨t.xf_13.2, t.kit_13_LadderError⟩ | 14, h => by cases h; exact ⟨t.xf_14.2, t.kit_14_LadderError⟩ | 15, h => by cases h; exact ⟨t.xf_15.2, t.kit_15_LadderError⟩ | 16, h => by cases h; exact ⟨t.xf_16.2, t.kit_16_LadderError⟩ | 17, h => by cases h; exact ⟨t.xf_17.2, t.kit_17_LadderError⟩ | 18, h => by cases h; exact ⟨t.xf_18.2, t.kit_18_LadderError⟩ | 19, h => by cases h; exact ⟨t.xf_19.2, t.kit_19_LadderError⟩ | 20, h => by cases h; exact ⟨t.xf_20.2, t.kit_20_LadderError⟩ | 21, h => by cases h; exact ⟨t.xf_21.2, t.kit_21_LadderError⟩ | 22, h => by cases h; exact ⟨t.xf_22.2, t.kit_22_LadderError⟩ | 23, h => by cases h; exact ⟨t.xf_23.2, t.kit_23_LadderError⟩ | 24, h => by cases h; exact ⟨t.xf_24.2, t.kit_24_LadderError⟩ | 25, h => by cases h; exact ⟨t.xf_25.2, t.kit_25_LadderError⟩ | 26, h => by cases h; exact ⟨t.xf_26.2, t.kit_26_LadderError⟩ | (m + 27), h => nomatch h)))) (sw_oneO (st_not (st_val (se_isE (tab := tE_ValueError_1) (cv := .type "ValueError") t.z_isinstance (se_var (pv 1)) (ty_of t.z_ValueError (by decide +kernel)) (fun _ h => h) (fun c b h => match c, h with | 0, h => nomatch h | 1, h => by cases h; exact ⟨t.xf_1.2, t.kit_1_ValueError⟩ | 2, h => by cases h; exact ⟨t.xf_2.2, t.kit_2_ValueError⟩ | 3, h => by cases h; exact ⟨t.xf_3.2, t.kit_3_ValueError⟩ | 4, h => by cases h; exact ⟨t.xf_4.2, t.kit_4_ValueError⟩ | 5, h => by cases h; exact ⟨t.xf_5.2, t.kit_5_ValueError⟩ | 6, h => by cases h; exact ⟨t.xf_6.2, t.kit_6_ValueError⟩ | 7, h => by cases h; exact ⟨t.xf_7.2, t.kit_7_ValueError⟩ | 8, h => by cases h; exact ⟨t.xf_8.2, t.kit_8_ValueError⟩ | 9, h => by cases h; exact ⟨t.xf_9.2, t.kit_9_ValueError⟩ | 10, h => by cases h; exact ⟨t.xf_10.2, t.kit_10_ValueError⟩ | 11, h => by cases h; exact ⟨t.xf_11.2, t.kit_11_ValueError⟩ | 12, h => by cases h; exact ⟨t.xf_12.2, t.kit_12_ValueError⟩ | 13, h => by cases h; exact ⟨t.xf_13.2, t.kit_13_ValueError⟩ | 14, h => by cases h; exact ⟨t.xf_14.2, t.kit_14_ValueError⟩ | 15, h => by cases h; exact ⟨t.xf_15.2, t.kit_15_ValueError⟩ | 16, h => by cases h; exact ⟨t.xf_16.2, t.kit_16_ValueError⟩ | 17, h => by cases h; exact ⟨t.xf_17.2, t.kit_17_ValueError⟩ | 18, h => by cases h; exact ⟨t.xf_18.2, t.kit_18_ValueError⟩ | 19, h => by cases h; exact ⟨t.xf_19.2, t.kit_19_ValueError⟩ | 20, h => by cases h; exact ⟨t.xf_20.2, t.kit_20_ValueError⟩ | 21, h => by cases h; exact ⟨t.xf_21.2, t.kit_21_ValueError⟩ | 22, h => by cases h; exact ⟨t.xf_22.2, t.kit_22_ValueError⟩ | 23, h => by cases h; exact ⟨t.xf_23.2, t.kit_23_ValueError⟩ | 24, h => by cases h; exact ⟨t.xf_24.2, t.kit_24_ValueError⟩ | 25, h => by cases h; exact ⟨t.xf_25.2, t.kit_25_ValueError⟩ | 26, h => by cases h; exact ⟨t.xf_26.2, t.kit_26_ValueError⟩ | (m + 27), h => nomatch h))))))) (ss_one (st_ret se_bl)) ss_nil)))
  (ss_cons (st_if (st_bool (sw_or (st_val (se_isE (tab := tE_BadBook_2) (cv := .ref ((TT K).ca 2)) t.z_isinstance (se_err (c := 3) t.er_BadPlace hr t.g_BadPlace (sa_cons se_int sa_nil)) (pe_glob (v := .ref ((TT K).ca 2)) rfl t.g_BadBook rfl) (fun _ h => h) (fun c b h => match c, h with | 0, h => nomatch h | 1, h => nomatch h | 2, h => nomatch h | 3, h => by cases h; exact ⟨t.xf_3.2, t.kit_3_BadBook⟩ | (m + 4), h => nomatch h))) (sw_or (st_val (se_isE (tab := tE_BadPlace_3) (cv := .ref ((TT K).ca 3)) t.z_isinstance (se_err (c := 2) t.er_BadBook hr t.g_BadBook (sa_cons se_int sa_nil)) (pe_glob (v := .ref ((TT K).ca 3)) rfl t.g_BadPlace rfl) (fun _ h => h) (fun c b h => match c, h with | 0, h => nomatch h | 1, h => nomatch h | 2, h => by cases h; exact ⟨t.xf_2.2, t.kit_2_BadPlace⟩ | (m + 3), h => nomatch h))) (sw_oneO (st_val (se_isE (tab := tE_BadGame_4) (cv := .ref ((TT K).ca 4)) t.z_isinstance (se_err (c := 11) t.er_BadGames hr t.g_BadGames (sa_cons se_int sa_nil)) (pe_glob (v := .ref ((TT K).ca 4)) rfl t.g_BadGame rfl) (fun _ h => h) (fun c b h => match c, h with | 0, h => nomatch h | 1, h => nomatch h | 2, h => nomatch h | 3, h => nomatch h | 4, h => nomatch h | 5, h => nomatch h | 6, h => nomatch h | 7, h => nomatch h | 8, h => nomatch h | 9, h => nomatch h | 10, h => nomatch h | 11, h => by cases h; exact ⟨t.xf_11.2, t.kit_11_BadGame⟩ | (m + 12), h => nomatch h))))))) (ss_one (st_ret se_bl)) ss_nil)
  (ss_cons (st_if (st_bool (sw_or (st_val (se_isE (tab := tE_BadBout_5) (cv := .ref ((TT K).ca 12)) t.z_isinstance (se_err (c := 13) t.er_BadRow hr t.g_BadRow (sa_cons se_int sa_nil)) (pe_glob (v := .ref ((TT K).ca 12)) rfl t.g_BadBout rfl) (fun _ h => h) (fun c b h => match c, h with | 0, h => nomatch h | 1, h => nomatch h | 2, h => nomatch h | 3, h => nomatch h | 4, h => nomatch h | 5, h => nomatch h | 6, h => nomatch h | 7, h => nomatch h | 8, h => nomatch h | 9, h => nomatch h | 10, h => nomatch h | 11, h => nomatch h | 12, h => nomatch h | 13, h => by cases h; exact ⟨t.xf_13.2, t.kit_13_BadBout⟩ | (m + 14), h => nomatch h))) (sw_or (st_val (se_isE (tab := tE_BadHand_6) (cv := .ref ((TT K).ca 9)) t.z_isinstance (se_err (c := 10) t.er_BadHonest hr t.g_BadHonest (sa_cons se_int sa_nil)) (pe_glob (v := .ref ((TT K).ca 9)) rfl t.g_BadHand rfl) (fun _ h => h) (fun c b h => match c, h with | 0, h => nomatch h | 1, h => nomatch h | 2, h => nomatch h | 3, h => nomatch h | 4, h => nomatch h | 5, h => nomatch h | 6, h => nomatch h | 7, h => nomatch h | 8, h => nomatch h | 9, h => nomatch h | 10, h => by cases h; exact ⟨t.xf_10.2, t.kit_10_BadHand⟩ | (m + 11), h => nomatch h))) (sw_oneO (st_val (se_isE (tab := tE_BadText_7) (cv := .ref ((TT K).ca 22)) t.z_isinstance (se_err (c := 20) t.er_BadTold hr t.g_BadTold (sa_cons se_int sa_nil)) (pe_glob (v := .ref ((TT K).ca 22)) rfl t.g_BadText rfl) (fun _ h => h) (fun c b h => match c, h with | 0, h => nomatch h | 1, h => nomatch h | 2, h => nomatch h | 3, h => nomatch h | 4, h => nomatch h | 5, h => nomatch h | 6, h => nomatch h | 7, h => nomatch h | 8, h => nomatch h | 9, h => nomatch h | 10, h => nomatch h | 11, h => nomatch h | 12, h => nomatch h | 13, h => nomatch h | 14, h => nomatch h | 15, h => nomatch h | 16, h => nomatch h | 17, h => nomatch h | 18, h => nomatch h | 19, h => nomatch h | 20, h => by cases h; exact ⟨t.xf_20.2, t.kit_20_BadText⟩ | (m + 21), h => nomatch h))))))) (ss_one (st_ret se_bl)) ss_nil)
  (ss_cons (st_if (st_bool (sw_or (st_not (st_val (se_isE (tab := tE_KeyError_8) (cv := .type "KeyError") t.z_isinstance (se_err (c := 24) t.er_UnknownPlace hr t.g_UnknownPlace (sa_cons se_int sa_nil)) (ty_of t.z_KeyError (by decide +kernel)) (fun _ h => h) (fun c b h => match c, h with | 0, h => nomatch h | 1, h => nomatch h | 2, h => nomatch h | 3, h => nomatch h | 4, h => nomatch h | 5, h => nomatch h | 6, h => nomatch h | 7, h => nomatch h | 8, h => nomatch h | 9, h => nomatch h | 10, h => nomatch h | 11, h => nomatch h | 12, h => nomatch h | 13, h => nomatch h | 14, h => nomatch h | 15, h => nomatch h | 16, h => nomatch h | 17, h => nomatch h | 18, h => nomatch h | 19, h => nomatch h | 20, h => nomatch h | 21, h => nomatch h | 22, h => nomatch h | 23, h => nomatch h | 24, h => by cases h; exact ⟨t.xf_24.2, t.kit_24_KeyError⟩ | (m + 25), h => nomatch h)))) (sw_oneO (st_not (st_val (se_isE (tab := tE_OverflowError_9) (cv := .type "OverflowError") t.z_isinstance (se_err (c := 25) t.er_TooMany hr t.g_TooMany (sa_cons se_int sa_nil)) (ty_of t.z_OverflowError (by decide +kernel)) (fun _ h => h) (fun c b h => match c, h with | 0, h => nomatch h | 1, h => nomatch h | 2, h => nomatch h | 3, h => nomatch h | 4, h => nomatch h | 5, h => nomatch h | 6, h => nomatch h | 7, h => nomatch h | 8, h => nomatch h | 9, h => nomatch h | 10, h => nomatch h | 11, h => nomatch h | 12, h => nomatch h | 13, h => nomatch h | 14, h => nomatch h | 15, h => nomatch h | 16, h => nomatch h | 17, h => nomatch h | 18, h => nomatch h | 19, h => nomatch h | 20, h => nomatch h | 21, h => nomatch h | 22, h => nomatch h | 23, h => nomatch h | 24, h => nomatch h | 25, h => by cases h; exact ⟨t.xf_25.2, t.kit_25_OverflowError⟩ | (m + 26), h => nomatch h))))))) (ss_one (st_ret se_bl)) ss_nil)
  (ss_cons (st_if (st_not (st_val (se_isE (tab := tE_RuntimeError_10) (cv := .type "RuntimeError") t.z_isinstance (se_err (c := 26) t.er_NothingToUndo hr t.g_NothingToUndo (sa_cons se_int sa_nil)) (ty_of t.z_RuntimeError (by decide +kernel)) (fun _ h => h) (fun c b h => match c, h with | 0, h => nomatch h | 1, h => nomatch h | 2, h => nomatch h | 3, h => nomatch h | 4, h => nomatch h | 5, h => nomatch h | 6, h => nomatch h | 7, h => nomatch h | 8, h => nomatch h | 9, h => nomatch h | 10, h => nomatch h | 11, h => nomatch h | 12, h => nomatch h | 13, h => nomatch h | 14, h => nomatch h | 15, h => nomatch h | 16, h => nomatch h | 17, h => nomatch h | 18, h => nomatch h | 19, h => nomatch h | 20, h => nomatch h | 21, h => nomatch h | 22, h => nomatch h | 23, h => nomatch h | 24, h => nomatch h | 25, h => nomatch h | 26, h => by cases h; exact ⟨t.xf_26.2, t.kit_26_RuntimeError⟩ | (m + 27), h => nomatch h)))) (ss_one (st_ret se_bl)) ss_nil)
  (ss_cons (st_for (passes_of rfl) rfl (si_tmp (sl_lst (sa_cons (se_err (c := 24) t.er_UnknownPlace hr t.g_UnknownPlace (sa_cons se_int sa_nil)) (sa_cons (se_err (c := 25) t.er_TooMany hr t.g_TooMany (sa_cons se_int sa_nil)) (sa_cons (se_err (c := 26) t.er_NothingToUndo hr t.g_NothingToUndo (sa_cons se_int sa_nil)) sa_nil))))) (pg_name (i := 1) sc__law_kinds_right.nd rfl (Or.inl rfl)) (gok_name (vs := [1]) (by simp)) (ss_one (st_if (st_val (se_isE (tab := tE_LadderError_0) (cv := .ref ((TT K).ca 0)) t.z_isinstance (se_var (pv 1)) (pe_glob (v := .ref ((TT K).ca 0)) rfl t.g_LadderError rfl) (fun _ h => h) (fun c b h => match c, h with | 0, h => nomatch h | 1, h => by cases h; exact ⟨t.xf_1.2, t.kit_1_LadderError⟩ | 2, h => by cases h; exact ⟨t.xf_2.2, t.kit_2_LadderError⟩ | 3, h => by cases h; exact ⟨t.xf_3.2, t.kit_3_LadderError⟩ | 4, h => by cases h; exact ⟨t.xf_4.2, t.kit_4_LadderError⟩ | 5, h => by cases h; exact ⟨t.xf_5.2, t.kit_5_LadderError⟩ | 6, h => by cases h; exact ⟨t.xf_6.2, t.kit_6_LadderError⟩ | 7, h => by cases h; exact ⟨t.xf_7.2, t.kit_7_LadderError⟩ | 8, h => by cases h; exact ⟨t.xf_8.2, t.kit_8_LadderError⟩ | 9, h => by cases h; exact ⟨t.xf_9.2, t.kit_9_LadderError⟩ | 10, h => by cases h; exact ⟨t.xf_10.2, t.kit_10_LadderError⟩ | 11, h => by cases h; exact ⟨t.xf_11.2, t.kit_11_LadderError⟩ | 12, h => by cases h; exact ⟨t.xf_12.2, t.kit_12_LadderError⟩ | 13, h => by cases h; exact ⟨t.xf_13.2, t.kit_13_LadderError⟩ | 14, h => by cases h; exact ⟨t.xf_14.2, t.kit_14_LadderError⟩ | 15, h => by cases h; exact ⟨t.xf_15.2, t.kit_15_LadderError⟩ | 16, h => by cases h; exact ⟨t.xf_16.2, t.kit_16_LadderError⟩ | 17, h => by cases h; exact ⟨t.xf_17.2, t.kit_17_LadderError⟩ | 18, h => by cases h; exact ⟨t.xf_18.2, t.kit_18_LadderError⟩ | 19, h => by cases h; exact ⟨t.xf_19.2, t.kit_19_LadderError⟩ | 20, h => by cases h; exact ⟨t.xf_20.2, t.kit_20_LadderError⟩ | 21, h => by cases h; exact ⟨t.xf_21.2, t.kit_21_LadderError⟩ | 22, h => by cases h; exact ⟨t.xf_22.2, t.kit_22_LadderError⟩ | 23, h => by cases h; exact ⟨t.xf_23.2, t.kit_23_LadderError⟩ | 24, h => by cases h; exact ⟨t.xf_24.2, t.kit_24_LadderError⟩ | 25, h => by cases h; exact ⟨t.xf_25.2, t.kit_25_LadderError⟩ | 26, h => by cases h; exact ⟨t.xf_26.2, t.kit_26_LadderError⟩ | (m + 27), h => nomatch h))) (ss_one (st_ret se_bl)) ss_nil)))
  (ss_one (st_ret se_bl))))))))))))
theorem ok__law_kept_too (t : Txt P K mg) : FnOk P w K mg base (L2.CX P w) 1 (He.ga K "_law_kept_too") (fdOf K (He.ga K "_law_kept_too")) ["_law_given"] (spEv ⟨K, (TT K).ca, (TT K).nm, (TT K).fld, P, w, (TT K).ex⟩ c__law_kept_too) :=
  fn_ok (T := TT K) fin_ok t.F__law_kept_too sc__law_kept_too fun cdv A outer s H E hr => (ss_cons (st_if (st_bool (sw_or (st_cmp (o_ne hr.units) (se_erf (c := 14) t.xf_14.1 t.no_14 rfl (se_errK (c := 14) t.er_BadChances t.ek_BadChances hr t.g_BadChances (sk_cons (se_var (pv 0)) sk_nil))) (se_var (pv 0)) (nomark _)) (sw_oneO (st_cmp (o_ne hr.units) (se_erf (c := 15) t.xf_15.1 t.no_15 rfl (se_errK (c := 15) t.er_BadOpponent t.ek_BadOpponent hr t.g_BadOpponent (sk_cons (se_var (pv 0)) sk_nil))) (se_var (pv 0)) (nomark _))))) (ss_one (st_ret se_bl)) ss_nil)
  (ss_cons (st_if (st_cmp (o_ne hr.units) (se_erf (c := 17) t.xf_17.1 t.no_17 rfl (se_errK (c := 17) t.er_BadMenu t.ek_BadMenu hr t.g_BadMenu (sk_cons (se_var (pv 0)) sk_nil))) (se_var (pv 0)) (nomark _)) (ss_one (st_ret se_bl)) ss_nil)
  (ss_cons (st_if (st_bool (sw_or (st_cmp (o_ne hr.units) (se_erf (c := 18) t.xf_18.1 t.no_18 rfl (se_errK (c := 18) t.er_BadChoice t.ek_BadChoice hr t.g_BadChoice (sk_cons (se_var (pv 0)) sk_nil))) (se_var (pv 0)) (nomark _)) (sw_oneO (st_cmp (o_ne hr.units) (se_erf (c := 19) t.xf_19.1 t.no_19 rfl (se_errK (c := 19) t.er_BadWish t.ek_BadWish hr t.g_BadWish (sk_cons (se_var (pv 0)) sk_nil))) (se_var (pv 0)) (nomark _))))) (ss_one (st_ret se_bl)) ss_nil)
  (ss_cons (st_if (st_cmp (o_ne hr.units) (se_erf (c := 20) t.xf_20.1 t.no_20 rfl (se_errK (c := 20) t.er_BadTold t.ek_BadTold hr t.g_BadTold (sk_cons (se_var (pv 0)) sk_nil))) (se_var (pv 0)) (nomark _)) (ss_one (st_ret se_bl)) ss_nil)
  (ss_cons (st_if (st_bool (sw_or (st_cmp (o_ne hr.units) (se_erf (c := 21) t.xf_21.1 t.no_21 rfl (se_errK (c := 21) t.er_BadName t.ek_BadName hr t.g_BadName (sk_cons (se_var (pv 0)) sk_nil))) (se_var (pv 0)) (nomark _)) (sw_oneO (st_cmp (o_ne hr.units) (se_erf (c := 22) t.xf_22.1 t.no_22 rfl (se_errK (c := 22) t.er_BadText t.ek_BadText hr t.g_BadText (sk_cons (se_var (pv 0)) sk_nil))) (se_var (pv 0)) (nomark _))))) (ss_one (st_ret se_bl)) ss_nil)
  (ss_cons (st_if (st_cmp (o_ne hr.units) (se_erf (c := 23) t.xf_23.1 t.no_23 rfl (se_errK (c := 23) t.er_BadLine t.ek_BadLine hr t.g_BadLine (sk_cons (se_var (pv 0)) sk_nil))) (se_var (pv 0)) (nomark _)) (ss_one (st_ret se_bl)) ss_nil)
  (ss_cons (st_if (st_bool (sw_or (st_cmp (o_ne hr.units) (se_erf (c := 24) t.xf_24.1 t.no_24 rfl (se_errK (c := 24) t.er_UnknownPlace t.ek_UnknownPlace hr t.g_UnknownPlace (sk_cons (se_var (pv 0)) sk_nil))) (se_var (pv 0)) (nomark _)) (sw_oneO (st_cmp (o_ne hr.units) (se_erf (c := 25) t.xf_25.1 t.no_25 rfl (se_errK (c := 25) t.er_TooMany t.ek_TooMany hr t.g_TooMany (sk_cons (se_var (pv 0)) sk_nil))) (se_var (pv 0)) (nomark _))))) (ss_one (st_ret se_bl)) ss_nil)
  (ss_cons (st_if (st_cmp (o_ne hr.units) (se_erf (c := 26) t.xf_26.1 t.no_26 rfl (se_errK (c := 26) t.er_NothingToUndo t.ek_NothingToUndo hr t.g_NothingToUndo (sk_cons (se_var (pv 0)) sk_nil))) (se_var (pv 0)) (nomark _)) (ss_one (st_ret se_bl)) ss_nil)
  (ss_cons (st_if (st_bool (sw_or (st_cmp (o_ne hr.units) (se_erf (c := 12) t.xf_12.1 t.no_12 rfl (se_errK (c := 12) t.er_BadBout t.ek_BadBout hr t.g_BadBout (sk_cons (se_var (pv 0)) sk_nil))) (se_var (pv 0)) (nomark _)) (sw_oneO (st_cmp (o_ne hr.units) (se_erf (c := 13) t.xf_13.1 t.no_13 rfl (se_errK (c := 13) t.er_BadRow t.ek_BadRow hr t.g_BadRow (sk_cons (se_var (pv 0)) sk_nil))) (se_var (pv 0)) (nomark _))))) (ss_one (st_ret se_bl)) ss_nil)
  (ss_one (st_ret se_bl)))))))))))
theorem ok_law (t : Txt P K mg) : FnOk P w K mg base (L2.CX P w) 2 (He.ga K "law") (fdOf K (He.ga K "law")) ["_law_script"] (spEv ⟨K, (TT K).ca, (TT K).nm, (TT K).fld, P, w, (TT K).ex⟩ c_law) :=
  fn_ok (T := TT K) fin_ok t.F_law sc_law fun cdv A outer s H E hr => (ss_cons (st_forK [1, 2, 3] (passes_of rfl) rfl (si_range1 rfl t.z_range (sa_cons (se_cb (g_max2 rfl) t.z_max (by decide +kernel) (sa_cons se_int (sa_cons (se_cb (g_min2 rfl) t.z_min (by decide +kernel) (sa_cons (se_it g_len t.z_len (by decide +kernel) (se_var (pv 0))) (sa_cons se_int sa_nil))) sa_nil))) sa_nil)) (pg_name (i := 1) sc_law.nd rfl (Or.inl rfl)) (gok_name (vs := [1]) (by simp)) (ss_cons (st_set (i := 2) sc_law.nd rfl (Or.inl rfl) (se_call (ok__law_pool t) (hr.mono (by decide)) rfl t.g__law_pool t.F__law_pool.kp (t.F__law_pool.binds fun _ _ _ _ _ _ us hl => match us, hl with | [_, _], _ => rfl) (takes_of rfl rfl rfl rfl) (sa_cons (se_var (pv 0)) (sa_cons (se_var (pv 1)) sa_nil))))
  (ss_cons (st_forK [3] (passes_of rfl) rfl (si_tmp (sl_lst (sa_cons se_non (sa_cons se_int (sa_cons se_str (sa_cons (se_tup sa_nil) (sa_cons (se_lst (sl_lst (sa_cons se_int sa_nil))) (sa_cons (se_call (ok__law_draw t) (hr.mono (by decide)) rfl t.g__law_draw t.F__law_draw.kp (t.F__law_draw.binds fun _ _ _ _ _ _ us hl => match us, hl with | [_, _], _ => rfl) (takes_of rfl rfl rfl rfl) (sa_cons (se_var (pv 2)) (sa_cons (se_bin o_pow se_int se_int) sa_nil))) sa_nil)))))))) (pg_name (i := 3) sc_law.nd rfl (Or.inl rfl)) (gok_name (vs := [3]) (by simp)) (ss_cons (st_if (st_bool (sw_or (st_cmp (o_ne hr.units) (se_erf (c := 1) t.xf_1.1 t.no_1 rfl (se_errK (c := 1) t.er_BadNumber t.ek_BadNumber hr t.g_BadNumber (sk_cons (se_var (pv 3)) sk_nil))) (se_var (pv 3)) (nomark _)) (sw_oneO (st_cmp (o_ne hr.units) (se_erf (c := 2) t.xf_2.1 t.no_2 rfl (se_errK (c := 2) t.er_BadBook t.ek_BadBook hr t.g_BadBook (sk_cons (se_var (pv 3)) sk_nil))) (se_var (pv 3)) (nomark _))))) (ss_one (st_ret se_bl)) ss_nil)
  (ss_cons (st_if (st_cmp (o_ne hr.units) (se_erf (c := 3) t.xf_3.1 t.no_3 rfl (se_errK (c := 3) t.er_BadPlace t.ek_BadPlace hr t.g_BadPlace (sk_cons (se_var (pv 3)) sk_nil))) (se_var (pv 3)) (nomark _)) (ss_one (st_ret se_bl)) ss_nil)
  (ss_cons (st_if (st_bool (sw_or (st_cmp (o_ne hr.units) (se_erf (c := 4) t.xf_4.1 t.no_4 rfl (se_errK (c := 4) t.er_BadGame t.ek_BadGame hr t.g_BadGame (sk_cons (se_var (pv 3)) sk_nil))) (se_var (pv 3)) (nomark _)) (sw_oneO (st_cmp (o_ne hr.units) (se_erf (c := 5) t.xf_5.1 t.no_5 rfl (se_errK (c := 5) t.er_BadMove t.ek_BadMove hr t.g_BadMove (sk_cons (se_var (pv 3)) sk_nil))) (se_var (pv 3)) (nomark _))))) (ss_one (st_ret se_bl)) ss_nil)
  (ss_cons (st_if (st_cmp (o_ne hr.units) (se_erf (c := 6) t.xf_6.1 t.no_6 rfl (se_errK (c := 6) t.er_BadLot t.ek_BadLot hr t.g_BadLot (sk_cons (se_var (pv 3)) sk_nil))) (se_var (pv 3)) (nomark _)) (ss_one (st_ret se_bl)) ss_nil)
  (ss_cons (st_if (st_bool (sw_or (st_cmp (o_ne hr.units) (se_erf (c := 7) t.xf_7.1 t.no_7 rfl (se_errK (c := 7) t.er_BadWorths t.ek_BadWorths hr t.g_BadWorths (sk_cons (se_var (pv 3)) sk_nil))) (se_var (pv 3)) (nomark _)) (sw_oneO (st_cmp (o_ne hr.units) (se_erf (c := 8) t.xf_8.1 t.no_8 rfl (se_errK (c := 8) t.er_BadGoal t.ek_BadGoal hr t.g_BadGoal (sk_cons (se_var (pv 3)) sk_nil))) (se_var (pv 3)) (nomark _))))) (ss_one (st_ret se_bl)) ss_nil)
  (ss_cons (st_if (st_cmp (o_ne hr.units) (se_erf (c := 9) t.xf_9.1 t.no_9 rfl (se_errK (c := 9) t.er_BadHand t.ek_BadHand hr t.g_BadHand (sk_cons (se_var (pv 3)) sk_nil))) (se_var (pv 3)) (nomark _)) (ss_one (st_ret se_bl)) ss_nil)
  (ss_cons (st_if (st_bool (sw_or (st_cmp (o_ne hr.units) (se_erf (c := 10) t.xf_10.1 t.no_10 rfl (se_errK (c := 10) t.er_BadHonest t.ek_BadHonest hr t.g_BadHonest (sk_cons (se_var (pv 3)) sk_nil))) (se_var (pv 3)) (nomark _)) (sw_oneO (st_cmp (o_ne hr.units) (se_erf (c := 11) t.xf_11.1 t.no_11 rfl (se_errK (c := 11) t.er_BadGames t.ek_BadGames hr t.g_BadGames (sk_cons (se_var (pv 3)) sk_nil))) (se_var (pv 3)) (nomark _))))) (ss_one (st_ret se_bl)) ss_nil)
  (ss_cons (st_if (st_cmp (o_ne hr.units) (se_erf (c := 16) t.xf_16.1 t.no_16 rfl (se_errK (c := 16) t.er_BadPlan t.ek_BadPlan hr t.g_BadPlan (sk_cons (se_var (pv 3)) sk_nil))) (se_var (pv 3)) (nomark _)) (ss_one (st_ret se_bl)) ss_nil)
  (ss_cons (st_if (st_not (st_val (se_call (ok__law_kept_too t) (hr.mono (by decide)) rfl t.g__law_kept_too t.F__law_kept_too.kp (t.F__law_kept_too.binds fun _ _ _ _ _ _ us hl => match us, hl with | [_], _ => rfl) (takes_of rfl rfl rfl rfl) (sa_cons (se_var (pv 3)) sa_nil)))) (ss_one (st_ret se_bl)) ss_nil)
  (ss_one (st_if (st_bool (sw_or (st_cmp (o_ne hr.units) (se_erf (c := 1) t.xf_1.1 t.no_1 rfl (se_err (c := 1) t.er_BadNumber hr t.g_BadNumber (sa_cons (se_var (pv 3)) sa_nil))) (se_var (pv 3)) (nomark _)) (sw_oneO (st_cmp (o_ne hr.units) (se_erf (c := 25) t.xf_25.1 t.no_25 rfl (se_err (c := 25) t.er_TooMany hr t.g_TooMany (sa_cons (se_var (pv 3)) sa_nil))) (se_var (pv 3)) (nomark _))))) (ss_one (st_ret se_bl)) ss_nil))))))))))))
  (ss_one (st_if (st_not (st_val (se_call0 (ok__law_kinds_right t) (hr.mono (by decide)) rfl t.g__law_kinds_right t.F__law_kinds_right.kp (t.F__law_kinds_right.binds fun _ _ _ _ _ _ us hl => match us, hl with | [], _ => rfl) (takes_of rfl rfl rfl rfl)))) (ss_one (st_ret se_bl)) ss_nil)))))
  (ss_one (st_ret se_bl)))
end
end K22
end
section
set_option maxRecDepth 100000
set_option maxHeartbeats 0
namespace K22
open PySem L2 Lad
theorem txt {K : PySem.W.Frag} {h : Heap} {mg : Str → Option Value} (X : K.In h) (G : h.Ns mainGlobals mg) (c : SaysL fa fn er K) : Txt P0 K mg where
  z_KeyError := He.free_ok X G (c.fact 0 (f := (He.Fa.free "KeyError").ok) rfl)
  z_OverflowError := He.free_ok X G (c.fact 1 (f := (He.Fa.free "OverflowError").ok) rfl)
  z_RuntimeError := He.free_ok X G (c.fact 2 (f := (He.Fa.free "RuntimeError").ok) rfl)
  z_ValueError := He.free_ok X G (c.fact 3 (f := (He.Fa.free "ValueError").ok) rfl)
  z_abs := He.free_ok X G (c.fact 4 (f := (He.Fa.free "abs").ok) rfl)
  z_int := He.free_ok X G (c.fact 5 (f := (He.Fa.free "int").ok) rfl)
  z_isinstance := He.free_ok X G (c.fact 6 (f := (He.Fa.free "isinstance").ok) rfl)
  z_len := He.free_ok X G (c.fact 7 (f := (He.Fa.free "len").ok) rfl)
  z_max := He.free_ok X G (c.fact 8 (f := (He.Fa.free "max").ok) rfl)
  z_min := He.free_ok X G (c.fact 9 (f := (He.Fa.free "min").ok) rfl)
  z_range := He.free_ok X G (c.fact 10 (f := (He.Fa.free "range").ok) rfl)
  z_sum := He.free_ok X G (c.fact 11 (f := (He.Fa.free "sum").ok) rfl)
  F__law_pool := fun_of (d := d__law_pool) rfl (c.fn_ 0 rfl).1 (c.fn_ 0 rfl).2
  g__law_pool := He.glo_ok X G (c.fact 12 (f := (He.Fa.glo "_law_pool").ok) rfl)
  F__law_draw := fun_of (d := d__law_draw) rfl (c.fn_ 1 rfl).1 (c.fn_ 1 rfl).2
  g__law_draw := He.glo_ok X G (c.fact 13 (f := (He.Fa.glo "_law_draw").ok) rfl)
  F__law_kinds_right := fun_of (d := d__law_kinds_right) rfl (c.fn_ 2 rfl).1 (c.fn_ 2 rfl).2
  g__law_kinds_right := He.glo_ok X G (c.fact 14 (f := (He.Fa.glo "_law_kinds_right").ok) rfl)
  F__law_kept_too := fun_of (d := d__law_kept_too) rfl (c.fn_ 3 rfl).1 (c.fn_ 3 rfl).2
  g__law_kept_too := He.glo_ok X G (c.fact 15 (f := (He.Fa.glo "_law_kept_too").ok) rfl)
  F_law := fun_of (d := d_law) rfl (c.fn_ 4 rfl).1 (c.fn_ 4 rfl).2
  g_law := He.glo_ok X G (c.fact 16 (f := (He.Fa.glo "law").ok) rfl)
  nl := c.fact 17 (f := noList) rfl
  g_LadderError := He.glo_ok X G (c.fact 18 (f := (He.Fa.glo "LadderError").ok) rfl)
  g_BadNumber := He.glo_ok X G (c.fact 19 (f := (He.Fa.glo "BadNumber").ok) rfl)
  g_BadBook := He.glo_ok X G (c.fact 20 (f := (He.Fa.glo "BadBook").ok) rfl)
  g_BadPlace := He.glo_ok X G (c.fact 21 (f := (He.Fa.glo "BadPlace").ok) rfl)
  g_BadGame := He.glo_ok X G (c.fact 22 (f := (He.Fa.glo "BadGame").ok) rfl)
  g_BadMove := He.glo_ok X G (c.fact 23 (f := (He.Fa.glo "BadMove").ok) rfl)
  g_BadLot := He.glo_ok X G (c.fact 24 (f := (He.Fa.glo "BadLot").ok) rfl)
  g_BadWorths := He.glo_ok X G (c.fact 25 (f := (He.Fa.glo "BadWorths").ok) rfl)
  g_BadGoal := He.glo_ok X G (c.fact 26 (f := (He.Fa.glo "BadGoal").ok) rfl)
  g_BadHand := He.glo_ok X G (c.fact 27 (f := (He.Fa.glo "BadHand").ok) rfl)
  g_BadHonest := He.glo_ok X G (c.fact 28 (f := (He.Fa.glo "BadHonest").ok) rfl)
  g_BadGames := He.glo_ok X G (c.fact 29 (f := (He.Fa.glo "BadGames").ok) rfl)
  g_BadBout := He.glo_ok X G (c.fact 30 (f := (He.Fa.glo "BadBout").ok) rfl)
  g_BadRow := He.glo_ok X G (c.fact 31 (f := (He.Fa.glo "BadRow").ok) rfl)
  g_BadChances := He.glo_ok X G (c.fact 32 (f := (He.Fa.glo "BadChances").ok) rfl)
  g_BadOpponent := He.glo_ok X G (c.fact 33 (f := (He.Fa.glo "BadOpponent").ok) rfl)
  g_BadPlan := He.glo_ok X G (c.fact 34 (f := (He.Fa.glo "BadPlan").ok) rfl)
  g_BadMenu := He.glo_ok X G (c.fact 35 (f := (He.Fa.glo "BadMenu").ok) rfl)
  g_BadChoice := He.glo_ok X G (c.fact 36 (f := (He.Fa.glo "BadChoice").ok) rfl)
  g_BadWish := He.glo_ok X G (c.fact 37 (f := (He.Fa.glo "BadWish").ok) rfl)
  g_BadTold := He.glo_ok X G (c.fact 38 (f := (He.Fa.glo "BadTold").ok) rfl)
  g_BadName := He.glo_ok X G (c.fact 39 (f := (He.Fa.glo "BadName").ok) rfl)
  g_BadText := He.glo_ok X G (c.fact 40 (f := (He.Fa.glo "BadText").ok) rfl)
  g_BadLine := He.glo_ok X G (c.fact 41 (f := (He.Fa.glo "BadLine").ok) rfl)
  g_UnknownPlace := He.glo_ok X G (c.fact 42 (f := (He.Fa.glo "UnknownPlace").ok) rfl)
  g_TooMany := He.glo_ok X G (c.fact 43 (f := (He.Fa.glo "TooMany").ok) rfl)
  g_NothingToUndo := He.glo_ok X G (c.fact 44 (f := (He.Fa.glo "NothingToUndo").ok) rfl)
  er_BadNumber := ErD.txt PySem.W.kxs_ValueError PySem.F.excBase_ValueError PySem.F.store_ValueError ini_BadNumber (fun _ _ _ _ _ _ _ _ _ => rfl) (by decide +kernel) (c.er_ 0 rfl) (c.fact 45 (f := (fun K => erB P0.main.file "ValueError" "ValueError.__new__" "ValueError.__init__" He.veBase K e_BadNumber)) rfl)
  ek_BadNumber := ErD.kb (P := P0) (d := e_BadNumber) (fun _ _ _ _ _ _ _ _ _ => rfl) (c.er_ 0 rfl) (c.fact 45 (f := (fun K => erB P0.main.file "ValueError" "ValueError.__new__" "ValueError.__init__" He.veBase K e_BadNumber)) rfl)
  xf_1 := excB_ok (c.fact 46 (f := (fun K => excB K (caK K 1))) rfl)
  no_1 := eqO_ok (c.fact 47 (f := (fun K => eqO (PySem.W.findIn K (.ref (caK K 1)) "number") (some none))) rfl)
  er_BadBook := ErD.txt PySem.W.kxs_ValueError PySem.F.excBase_ValueError PySem.F.store_ValueError ini_BadBook (fun _ _ _ _ _ _ _ _ _ => rfl) (by decide +kernel) (c.er_ 1 rfl) (c.fact 48 (f := (fun K => erB P0.main.file "ValueError" "ValueError.__new__" "ValueError.__init__" He.veBase K e_BadBook)) rfl)
  ek_BadBook := ErD.kb (P := P0) (d := e_BadBook) (fun _ _ _ _ _ _ _ _ _ => rfl) (c.er_ 1 rfl) (c.fact 48 (f := (fun K => erB P0.main.file "ValueError" "ValueError.__new__" "ValueError.__init__" He.veBase K e_BadBook)) rfl)
  xf_2 := excB_ok (c.fact 49 (f := (fun K => excB K (caK K 2))) rfl)
  no_2 := eqO_ok (c.fact 50 (f := (fun K => eqO (PySem.W.findIn K (.ref (caK K 2)) "part") (some none))) rfl)
  er_BadPlace := ErD.txt PySem.W.kxs_ValueError PySem.F.excBase_ValueError PySem.F.store_ValueError ini_BadPlace (fun _ _ _ _ _ _ _ _ _ => rfl) (by decide +kernel) (c.er_ 2 rfl) (c.fact 51 (f := (fun K => erB P0.main.file "ValueError" "ValueError.__new__" "ValueError.__init__" He.veBase K e_BadPlace)) rfl)
  ek_BadPlace := ErD.kb (P := P0) (d := e_BadPlace) (fun _ _ _ _ _ _ _ _ _ => rfl) (c.er_ 2 rfl) (c.fact 51 (f := (fun K => erB P0.main.file "ValueError" "ValueError.__new__" "ValueError.__init__" He.veBase K e_BadPlace)) rfl)
  xf_3 := excB_ok (c.fact 52 (f := (fun K => excB K (caK K 3))) rfl)
  no_3 := eqO_ok (c.fact 53 (f := (fun K => eqO (PySem.W.findIn K (.ref (caK K 3)) "place") (some none))) rfl)
  er_BadGame := ErD.txt PySem.W.kxs_ValueError PySem.F.excBase_ValueError PySem.F.store_ValueError ini_BadGame (fun _ _ _ _ _ _ _ _ _ => rfl) (by decide +kernel) (c.er_ 3 rfl) (c.fact 54 (f := (fun K => erB P0.main.file "ValueError" "ValueError.__new__" "ValueError.__init__" He.veBase K e_BadGame)) rfl)
  ek_BadGame := ErD.kb (P := P0) (d := e_BadGame) (fun _ _ _ _ _ _ _ _ _ => rfl) (c.er_ 3 rfl) (c.fact 54 (f := (fun K => erB P0.main.file "ValueError" "ValueError.__new__" "ValueError.__init__" He.veBase K e_BadGame)) rfl)
  xf_4 := excB_ok (c.fact 55 (f := (fun K => excB K (caK K 4))) rfl)
  no_4 := eqO_ok (c.fact 56 (f := (fun K => eqO (PySem.W.findIn K (.ref (caK K 4)) "value") (some none))) rfl)
  er_BadMove := ErD.txt PySem.W.kxs_ValueError PySem.F.excBase_ValueError PySem.F.store_ValueError ini_BadMove (fun _ _ _ _ _ _ _ _ _ => rfl) (by decide +kernel) (c.er_ 4 rfl) (c.fact 57 (f := (fun K => erB P0.main.file "ValueError" "ValueError.__new__" "ValueError.__init__" He.veBase K e_BadMove)) rfl)
  ek_BadMove := ErD.kb (P := P0) (d := e_BadMove) (fun _ _ _ _ _ _ _ _ _ => rfl) (c.er_ 4 rfl) (c.fact 57 (f := (fun K => erB P0.main.file "ValueError" "ValueError.__new__" "ValueError.__init__" He.veBase K e_BadMove)) rfl)
  xf_5 := excB_ok (c.fact 58 (f := (fun K => excB K (caK K 5))) rfl)
  no_5 := eqO_ok (c.fact 59 (f := (fun K => eqO (PySem.W.findIn K (.ref (caK K 5)) "index") (some none))) rfl)
  er_BadLot := ErD.txt PySem.W.kxs_ValueError PySem.F.excBase_ValueError PySem.F.store_ValueError ini_BadLot (fun _ _ _ _ _ _ _ _ _ => rfl) (by decide +kernel) (c.er_ 5 rfl) (c.fact 60 (f := (fun K => erB P0.main.file "ValueError" "ValueError.__new__" "ValueError.__init__" He.veBase K e_BadLot)) rfl)
  ek_BadLot := ErD.kb (P := P0) (d := e_BadLot) (fun _ _ _ _ _ _ _ _ _ => rfl) (c.er_ 5 rfl) (c.fact 60 (f := (fun K => erB P0.main.file "ValueError" "ValueError.__new__" "ValueError.__init__" He.veBase K e_BadLot)) rfl)
  xf_6 := excB_ok (c.fact 61 (f := (fun K => excB K (caK K 6))) rfl)
  no_6 := eqO_ok (c.fact 62 (f := (fun K => eqO (PySem.W.findIn K (.ref (caK K 6)) "place") (some none))) rfl)
  er_BadWorths := ErD.txt PySem.W.kxs_ValueError PySem.F.excBase_ValueError PySem.F.store_ValueError ini_BadWorths (fun _ _ _ _ _ _ _ _ _ => rfl) (by decide +kernel) (c.er_ 6 rfl) (c.fact 63 (f := (fun K => erB P0.main.file "ValueError" "ValueError.__new__" "ValueError.__init__" He.veBase K e_BadWorths)) rfl)
  ek_BadWorths := ErD.kb (P := P0) (d := e_BadWorths) (fun _ _ _ _ _ _ _ _ _ => rfl) (c.er_ 6 rfl) (c.fact 63 (f := (fun K => erB P0.main.file "ValueError" "ValueError.__new__" "ValueError.__init__" He.veBase K e_BadWorths)) rfl)
  xf_7 := excB_ok (c.fact 64 (f := (fun K => excB K (caK K 7))) rfl)
  no_7 := eqO_ok (c.fact 65 (f := (fun K => eqO (PySem.W.findIn K (.ref (caK K 7)) "place") (some none))) rfl)
  er_BadGoal := ErD.txt PySem.W.kxs_ValueError PySem.F.excBase_ValueError PySem.F.store_ValueError ini_BadGoal (fun _ _ _ _ _ _ _ _ _ => rfl) (by decide +kernel) (c.er_ 7 rfl) (c.fact 66 (f := (fun K => erB P0.main.file "ValueError" "ValueError.__new__" "ValueError.__init__" He.veBase K e_BadGoal)) rfl)
  ek_BadGoal := ErD.kb (P := P0) (d := e_BadGoal) (fun _ _ _ _ _ _ _ _ _ => rfl) (c.er_ 7 rfl) (c.fact 66 (f := (fun K => erB P0.main.file "ValueError" "ValueError.__new__" "ValueError.__init__" He.veBase K e_BadGoal)) rfl)
  xf_8 := excB_ok (c.fact 67 (f := (fun K => excB K (caK K 8))) rfl)
  no_8 := eqO_ok (c.fact 68 (f := (fun K => eqO (PySem.W.findIn K (.ref (caK K 8)) "part") (some none))) rfl)
  er_BadHand := ErD.txt PySem.W.kxs_ValueError PySem.F.excBase_ValueError PySem.F.store_ValueError ini_BadHand (fun _ _ _ _ _ _ _ _ _ => rfl) (by decide +kernel) (c.er_ 8 rfl) (c.fact 69 (f := (fun K => erB P0.main.file "ValueError" "ValueError.__new__" "ValueError.__init__" He.veBase K e_BadHand)) rfl)
  ek_BadHand := ErD.kb (P := P0) (d := e_BadHand) (fun _ _ _ _ _ _ _ _ _ => rfl) (c.er_ 8 rfl) (c.fact 69 (f := (fun K => erB P0.main.file "ValueError" "ValueError.__new__" "ValueError.__init__" He.veBase K e_BadHand)) rfl)
  xf_9 := excB_ok (c.fact 70 (f := (fun K => excB K (caK K 9))) rfl)
  no_9 := eqO_ok (c.fact 71 (f := (fun K => eqO (PySem.W.findIn K (.ref (caK K 9)) "hand") (some none))) rfl)
  er_BadHonest := ErD.txt PySem.W.kxs_ValueError PySem.F.excBase_ValueError PySem.F.store_ValueError ini_BadHonest (fun _ _ _ _ _ _ _ _ _ => rfl) (by decide +kernel) (c.er_ 9 rfl) (c.fact 72 (f := (fun K => erB P0.main.file "ValueError" "ValueError.__new__" "ValueError.__init__" He.veBase K e_BadHonest)) rfl)
  ek_BadHonest := ErD.kb (P := P0) (d := e_BadHonest) (fun _ _ _ _ _ _ _ _ _ => rfl) (c.er_ 9 rfl) (c.fact 72 (f := (fun K => erB P0.main.file "ValueError" "ValueError.__new__" "ValueError.__init__" He.veBase K e_BadHonest)) rfl)
  xf_10 := excB_ok (c.fact 73 (f := (fun K => excB K (caK K 10))) rfl)
  no_10 := eqO_ok (c.fact 74 (f := (fun K => eqO (PySem.W.findIn K (.ref (caK K 10)) "index") (some none))) rfl)
  er_BadGames := ErD.txt PySem.W.kxs_ValueError PySem.F.excBase_ValueError PySem.F.store_ValueError ini_BadGames (fun _ _ _ _ _ _ _ _ _ => rfl) (by decide +kernel) (c.er_ 10 rfl) (c.fact 75 (f := (fun K => erB P0.main.file "ValueError" "ValueError.__new__" "ValueError.__init__" He.veBase K e_BadGames)) rfl)
  ek_BadGames := ErD.kb (P := P0) (d := e_BadGames) (fun _ _ _ _ _ _ _ _ _ => rfl) (c.er_ 10 rfl) (c.fact 75 (f := (fun K => erB P0.main.file "ValueError" "ValueError.__new__" "ValueError.__init__" He.veBase K e_BadGames)) rfl)
  xf_11 := excB_ok (c.fact 76 (f := (fun K => excB K (caK K 11))) rfl)
  no_11 := eqO_ok (c.fact 77 (f := (fun K => eqO (PySem.W.findIn K (.ref (caK K 11)) "number") (some none))) rfl)
  er_BadBout := ErD.txt PySem.W.kxs_ValueError PySem.F.excBase_ValueError PySem.F.store_ValueError ini_BadBout (fun _ _ _ _ _ _ _ _ _ => rfl) (by decide +kernel) (c.er_ 11 rfl) (c.fact 78 (f := (fun K => erB P0.main.file "ValueError" "ValueError.__new__" "ValueError.__init__" He.veBase K e_BadBout)) rfl)
  ek_BadBout := ErD.kb (P := P0) (d := e_BadBout) (fun _ _ _ _ _ _ _ _ _ => rfl) (c.er_ 11 rfl) (c.fact 78 (f := (fun K => erB P0.main.file "ValueError" "ValueError.__new__" "ValueError.__init__" He.veBase K e_BadBout)) rfl)
  xf_12 := excB_ok (c.fact 79 (f := (fun K => excB K (caK K 12))) rfl)
  no_12 := eqO_ok (c.fact 80 (f := (fun K => eqO (PySem.W.findIn K (.ref (caK K 12)) "index") (some none))) rfl)
  er_BadRow := ErD.txt PySem.W.kxs_ValueError PySem.F.excBase_ValueError PySem.F.store_ValueError ini_BadRow (fun _ _ _ _ _ _ _ _ _ => rfl) (by decide +kernel) (c.er_ 12 rfl) (c.fact 81 (f := (fun K => erB P0.main.file "ValueError" "ValueError.__new__" "ValueError.__init__" He.veBase K e_BadRow)) rfl)
  ek_BadRow := ErD.kb (P := P0) (d := e_BadRow) (fun _ _ _ _ _ _ _ _ _ => rfl) (c.er_ 12 rfl) (c.fact 81 (f := (fun K => erB P0.main.file "ValueError" "ValueError.__new__" "ValueError.__init__" He.veBase K e_BadRow)) rfl)
  xf_13 := excB_ok (c.fact 82 (f := (fun K => excB K (caK K 13))) rfl)
  no_13 := eqO_ok (c.fact 83 (f := (fun K => eqO (PySem.W.findIn K (.ref (caK K 13)) "index") (some none))) rfl)
  er_BadChances := ErD.txt PySem.W.kxs_ValueError PySem.F.excBase_ValueError PySem.F.store_ValueError ini_BadChances (fun _ _ _ _ _ _ _ _ _ => rfl) (by decide +kernel) (c.er_ 13 rfl) (c.fact 84 (f := (fun K => erB P0.main.file "ValueError" "ValueError.__new__" "ValueError.__init__" He.veBase K e_BadChances)) rfl)
  ek_BadChances := ErD.kb (P := P0) (d := e_BadChances) (fun _ _ _ _ _ _ _ _ _ => rfl) (c.er_ 13 rfl) (c.fact 84 (f := (fun K => erB P0.main.file "ValueError" "ValueError.__new__" "ValueError.__init__" He.veBase K e_BadChances)) rfl)
  xf_14 := excB_ok (c.fact 85 (f := (fun K => excB K (caK K 14))) rfl)
  no_14 := eqO_ok (c.fact 86 (f := (fun K => eqO (PySem.W.findIn K (.ref (caK K 14)) "index") (some none))) rfl)
  er_BadOpponent := ErD.txt PySem.W.kxs_ValueError PySem.F.excBase_ValueError PySem.F.store_ValueError ini_BadOpponent (fun _ _ _ _ _ _ _ _ _ => rfl) (by decide +kernel) (c.er_ 14 rfl) (c.fact 87 (f := (fun K => erB P0.main.file "ValueError" "ValueError.__new__" "ValueError.__init__" He.veBase K e_BadOpponent)) rfl)
  ek_BadOpponent := ErD.kb (P := P0) (d := e_BadOpponent) (fun _ _ _ _ _ _ _ _ _ => rfl) (c.er_ 14 rfl) (c.fact 87 (f := (fun K => erB P0.main.file "ValueError" "ValueError.__new__" "ValueError.__init__" He.veBase K e_BadOpponent)) rfl)
  xf_15 := excB_ok (c.fact 88 (f := (fun K => excB K (caK K 15))) rfl)
  no_15 := eqO_ok (c.fact 89 (f := (fun K => eqO (PySem.W.findIn K (.ref (caK K 15)) "index") (some none))) rfl)
  er_BadPlan := ErD.txt PySem.W.kxs_ValueError PySem.F.excBase_ValueError PySem.F.store_ValueError ini_BadPlan (fun _ _ _ _ _ _ _ _ _ => rfl) (by decide +kernel) (c.er_ 15 rfl) (c.fact 90 (f := (fun K => erB P0.main.file "ValueError" "ValueError.__new__" "ValueError.__init__" He.veBase K e_BadPlan)) rfl)
  ek_BadPlan := ErD.kb (P := P0) (d := e_BadPlan) (fun _ _ _ _ _ _ _ _ _ => rfl) (c.er_ 15 rfl) (c.fact 90 (f := (fun K => erB P0.main.file "ValueError" "ValueError.__new__" "ValueError.__init__" He.veBase K e_BadPlan)) rfl)
  xf_16 := excB_ok (c.fact 91 (f := (fun K => excB K (caK K 16))) rfl)
  no_16 := eqO_ok (c.fact 92 (f := (fun K => eqO (PySem.W.findIn K (.ref (caK K 16)) "key") (some none))) rfl)
  er_BadMenu := ErD.txt PySem.W.kxs_ValueError PySem.F.excBase_ValueError PySem.F.store_ValueError ini_BadMenu (fun _ _ _ _ _ _ _ _ _ => rfl) (by decide +kernel) (c.er_ 16 rfl) (c.fact 93 (f := (fun K => erB P0.main.file "ValueError" "ValueError.__new__" "ValueError.__init__" He.veBase K e_BadMenu)) rfl)
  ek_BadMenu := ErD.kb (P := P0) (d := e_BadMenu) (fun _ _ _ _ _ _ _ _ _ => rfl) (c.er_ 16 rfl) (c.fact 93 (f := (fun K => erB P0.main.file "ValueError" "ValueError.__new__" "ValueError.__init__" He.veBase K e_BadMenu)) rfl)
  xf_17 := excB_ok (c.fact 94 (f := (fun K => excB K (caK K 17))) rfl)
  no_17 := eqO_ok (c.fact 95 (f := (fun K => eqO (PySem.W.findIn K (.ref (caK K 17)) "index") (some none))) rfl)
  er_BadChoice := ErD.txt PySem.W.kxs_ValueError PySem.F.excBase_ValueError PySem.F.store_ValueError ini_BadChoice (fun _ _ _ _ _ _ _ _ _ => rfl) (by decide +kernel) (c.er_ 17 rfl) (c.fact 96 (f := (fun K => erB P0.main.file "ValueError" "ValueError.__new__" "ValueError.__init__" He.veBase K e_BadChoice)) rfl)
  ek_BadChoice := ErD.kb (P := P0) (d := e_BadChoice) (fun _ _ _ _ _ _ _ _ _ => rfl) (c.er_ 17 rfl) (c.fact 96 (f := (fun K => erB P0.main.file "ValueError" "ValueError.__new__" "ValueError.__init__" He.veBase K e_BadChoice)) rfl)
  xf_18 := excB_ok (c.fact 97 (f := (fun K => excB K (caK K 18))) rfl)
  no_18 := eqO_ok (c.fact 98 (f := (fun K => eqO (PySem.W.findIn K (.ref (caK K 18)) "choice") (some none))) rfl)
  er_BadWish := ErD.txt PySem.W.kxs_ValueError PySem.F.excBase_ValueError PySem.F.store_ValueError ini_BadWish (fun _ _ _ _ _ _ _ _ _ => rfl) (by decide +kernel) (c.er_ 18 rfl) (c.fact 99 (f := (fun K => erB P0.main.file "ValueError" "ValueError.__new__" "ValueError.__init__" He.veBase K e_BadWish)) rfl)
  ek_BadWish := ErD.kb (P := P0) (d := e_BadWish) (fun _ _ _ _ _ _ _ _ _ => rfl) (c.er_ 18 rfl) (c.fact 99 (f := (fun K => erB P0.main.file "ValueError" "ValueError.__new__" "ValueError.__init__" He.veBase K e_BadWish)) rfl)
  xf_19 := excB_ok (c.fact 100 (f := (fun K => excB K (caK K 19))) rfl)
  no_19 := eqO_ok (c.fact 101 (f := (fun K => eqO (PySem.W.findIn K (.ref (caK K 19)) "index") (some none))) rfl)
  er_BadTold := ErD.txt PySem.W.kxs_ValueError PySem.F.excBase_ValueError PySem.F.store_ValueError ini_BadTold (fun _ _ _ _ _ _ _ _ _ => rfl) (by decide +kernel) (c.er_ 19 rfl) (c.fact 102 (f := (fun K => erB P0.main.file "ValueError" "ValueError.__new__" "ValueError.__init__" He.veBase K e_BadTold)) rfl)
  ek_BadTold := ErD.kb (P := P0) (d := e_BadTold) (fun _ _ _ _ _ _ _ _ _ => rfl) (c.er_ 19 rfl) (c.fact 102 (f := (fun K => erB P0.main.file "ValueError" "ValueError.__new__" "ValueError.__init__" He.veBase K e_BadTold)) rfl)
  xf_20 := excB_ok (c.fact 103 (f := (fun K => excB K (caK K 20))) rfl)
  no_20 := eqO_ok (c.fact 104 (f := (fun K => eqO (PySem.W.findIn K (.ref (caK K 20)) "index") (some none))) rfl)
  er_BadName := ErD.txt PySem.W.kxs_ValueError PySem.F.excBase_ValueError PySem.F.store_ValueError ini_BadName (fun _ _ _ _ _ _ _ _ _ => rfl) (by decide +kernel) (c.er_ 20 rfl) (c.fact 105 (f := (fun K => erB P0.main.file "ValueError" "ValueError.__new__" "ValueError.__init__" He.veBase K e_BadName)) rfl)
  ek_BadName := ErD.kb (P := P0) (d := e_BadName) (fun _ _ _ _ _ _ _ _ _ => rfl) (c.er_ 20 rfl) (c.fact 105 (f := (fun K => erB P0.main.file "ValueError" "ValueError.__new__" "ValueError.__init__" He.veBase K e_BadName)) rfl)
  xf_21 := excB_ok (c.fact 106 (f := (fun K => excB K (caK K 21))) rfl)
  no_21 := eqO_ok (c.fact 107 (f := (fun K => eqO (PySem.W.findIn K (.ref (caK K 21)) "name") (some none))) rfl)
  er_BadText := ErD.txt PySem.W.kxs_ValueError PySem.F.excBase_ValueError PySem.F.store_ValueError ini_BadText (fun _ _ _ _ _ _ _ _ _ => rfl) (by decide +kernel) (c.er_ 21 rfl) (c.fact 108 (f := (fun K => erB P0.main.file "ValueError" "ValueError.__new__" "ValueError.__init__" He.veBase K e_BadText)) rfl)
  ek_BadText := ErD.kb (P := P0) (d := e_BadText) (fun _ _ _ _ _ _ _ _ _ => rfl) (c.er_ 21 rfl) (c.fact 108 (f := (fun K => erB P0.main.file "ValueError" "ValueError.__new__" "ValueError.__init__" He.veBase K e_BadText)) rfl)
  xf_22 := excB_ok (c.fact 109 (f := (fun K => excB K (caK K 22))) rfl)
  no_22 := eqO_ok (c.fact 110 (f := (fun K => eqO (PySem.W.findIn K (.ref (caK K 22)) "index") (some none))) rfl)
  er_BadLine := ErD.txt PySem.W.kxs_ValueError PySem.F.excBase_ValueError PySem.F.store_ValueError ini_BadLine (fun _ _ _ _ _ _ _ _ _ => rfl) (by decide +kernel) (c.er_ 22 rfl) (c.fact 111 (f := (fun K => erB P0.main.file "ValueError" "ValueError.__new__" "ValueError.__init__" He.veBase K e_BadLine)) rfl)
  ek_BadLine := ErD.kb (P := P0) (d := e_BadLine) (fun _ _ _ _ _ _ _ _ _ => rfl) (c.er_ 22 rfl) (c.fact 111 (f := (fun K => erB P0.main.file "ValueError" "ValueError.__new__" "ValueError.__init__" He.veBase K e_BadLine)) rfl)
  xf_23 := excB_ok (c.fact 112 (f := (fun K => excB K (caK K 23))) rfl)
  no_23 := eqO_ok (c.fact 113 (f := (fun K => eqO (PySem.W.findIn K (.ref (caK K 23)) "line") (some none))) rfl)
  er_UnknownPlace := ErD.txtM kxs_KeyError mk_KeyError store_KeyError ini_UnknownPlace (fun _ _ _ _ _ _ _ _ _ => rfl) (by decide +kernel) (c.er_ 23 rfl) (c.fact 114 (f := (fun K => erB P0.main.file "KeyError" "LookupError.__new__" "KeyError.__init__" keBase K e_UnknownPlace)) rfl)
  ek_UnknownPlace := ErD.kb (P := P0) (d := e_UnknownPlace) (fun _ _ _ _ _ _ _ _ _ => rfl) (c.er_ 23 rfl) (c.fact 114 (f := (fun K => erB P0.main.file "KeyError" "LookupError.__new__" "KeyError.__init__" keBase K e_UnknownPlace)) rfl)
  xf_24 := excB_ok (c.fact 115 (f := (fun K => excB K (caK K 24))) rfl)
  no_24 := eqO_ok (c.fact 116 (f := (fun K => eqO (PySem.W.findIn K (.ref (caK K 24)) "place") (some none))) rfl)
  er_TooMany := ErD.txt PySem.W.kxs_OverflowError PySem.F.excBase_OverflowError PySem.F.store_OverflowError ini_TooMany (fun _ _ _ _ _ _ _ _ _ => rfl) (by decide +kernel) (c.er_ 24 rfl) (c.fact 117 (f := (fun K => erB P0.main.file "OverflowError" "OverflowError.__new__" "OverflowError.__init__" oeBase K e_TooMany)) rfl)
  ek_TooMany := ErD.kb (P := P0) (d := e_TooMany) (fun _ _ _ _ _ _ _ _ _ => rfl) (c.er_ 24 rfl) (c.fact 117 (f := (fun K => erB P0.main.file "OverflowError" "OverflowError.__new__" "OverflowError.__init__" oeBase K e_TooMany)) rfl)
  xf_25 := excB_ok (c.fact 118 (f := (fun K => excB K (caK K 25))) rfl)
  no_25 := eqO_ok (c.fact 119 (f := (fun K => eqO (PySem.W.findIn K (.ref (caK K 25)) "limit") (some none))) rfl)
  er_NothingToUndo := ErD.txt PySem.W.kxs_RuntimeError PySem.F.excBase_RuntimeError PySem.F.store_RuntimeError ini_NothingToUndo (fun _ _ _ _ _ _ _ _ _ => rfl) (by decide +kernel) (c.er_ 25 rfl) (c.fact 120 (f := (fun K => erB P0.main.file "RuntimeError" "RuntimeError.__new__" "RuntimeError.__init__" [.type "RuntimeError", .type "Exception", .type "BaseException", .type "object"] K e_NothingToUndo)) rfl)
  ek_NothingToUndo := ErD.kb (P := P0) (d := e_NothingToUndo) (fun _ _ _ _ _ _ _ _ _ => rfl) (c.er_ 25 rfl) (c.fact 120 (f := (fun K => erB P0.main.file "RuntimeError" "RuntimeError.__new__" "RuntimeError.__init__" [.type "RuntimeError", .type "Exception", .type "BaseException", .type "object"] K e_NothingToUndo)) rfl)
  xf_26 := excB_ok (c.fact 121 (f := (fun K => excB K (caK K 26))) rfl)
  no_26 := eqO_ok (c.fact 122 (f := (fun K => eqO (PySem.W.findIn K (.ref (caK K 26)) "name") (some none))) rfl)
  kit_1_LadderError := of_decide_eq_true (c.fact 123 (f := (fun K => decide (PySem.W.kitOne K (.ref (caK K 1)) (.ref (caK K 0)) = some true))) rfl)
  kit_1_ValueError := of_decide_eq_true (c.fact 124 (f := (fun K => decide (PySem.W.kitOne K (.ref (caK K 1)) (.type "ValueError") = some true))) rfl)
  kit_2_BadPlace := of_decide_eq_true (c.fact 125 (f := (fun K => decide (PySem.W.kitOne K (.ref (caK K 2)) (.ref (caK K 3)) = some false))) rfl)
  kit_2_LadderError := of_decide_eq_true (c.fact 126 (f := (fun K => decide (PySem.W.kitOne K (.ref (caK K 2)) (.ref (caK K 0)) = some true))) rfl)
  kit_2_ValueError := of_decide_eq_true (c.fact 127 (f := (fun K => decide (PySem.W.kitOne K (.ref (caK K 2)) (.type "ValueError") = some true))) rfl)
  kit_3_BadBook := of_decide_eq_true (c.fact 128 (f := (fun K => decide (PySem.W.kitOne K (.ref (caK K 3)) (.ref (caK K 2)) = some false))) rfl)
  kit_3_LadderError := of_decide_eq_true (c.fact 129 (f := (fun K => decide (PySem.W.kitOne K (.ref (caK K 3)) (.ref (caK K 0)) = some true))) rfl)
  kit_3_ValueError := of_decide_eq_true (c.fact 130 (f := (fun K => decide (PySem.W.kitOne K (.ref (caK K 3)) (.type "ValueError") = some true))) rfl)
  kit_4_LadderError := of_decide_eq_true (c.fact 131 (f := (fun K => decide (PySem.W.kitOne K (.ref (caK K 4)) (.ref (caK K 0)) = some true))) rfl)
  kit_4_ValueError := of_decide_eq_true (c.fact 132 (f := (fun K => decide (PySem.W.kitOne K (.ref (caK K 4)) (.type "ValueError") = some true))) rfl)
  kit_5_LadderError := of_decide_eq_true (c.fact 133 (f := (fun K => decide (PySem.W.kitOne K (.ref (caK K 5)) (.ref (caK K 0)) = some true))) rfl)
  kit_5_ValueError := of_decide_eq_true (c.fact 134 (f := (fun K => decide (PySem.W.kitOne K (.ref (caK K 5)) (.type "ValueError") = some true))) rfl)
  kit_6_LadderError := of_decide_eq_true (c.fact 135 (f := (fun K => decide (PySem.W.kitOne K (.ref (caK K 6)) (.ref (caK K 0)) = some true))) rfl)
  kit_6_ValueError := of_decide_eq_true (c.fact 136 (f := (fun K => decide (PySem.W.kitOne K (.ref (caK K 6)) (.type "ValueError") = some true))) rfl)
  kit_7_LadderError := of_decide_eq_true (c.fact 137 (f := (fun K => decide (PySem.W.kitOne K (.ref (caK K 7)) (.ref (caK K 0)) = some true))) rfl)
  kit_7_ValueError := of_decide_eq_true (c.fact 138 (f := (fun K => decide (PySem.W.kitOne K (.ref (caK K 7)) (.type "ValueError") = some true))) rfl)
  kit_8_LadderError := of_decide_eq_true (c.fact 139 (f := (fun K => decide (PySem.W.kitOne K (.ref (caK K 8)) (.ref (caK K 0)) = some true))) rfl)
  kit_8_ValueError := of_decide_eq_true (c.fact 140 (f := (fun K => decide (PySem.W.kitOne K (.ref (caK K 8)) (.type "ValueError") = some true))) rfl)
  kit_9_LadderError := of_decide_eq_true (c.fact 141 (f := (fun K => decide (PySem.W.kitOne K (.ref (caK K 9)) (.ref (caK K 0)) = some true))) rfl)
  kit_9_ValueError := of_decide_eq_true (c.fact 142 (f := (fun K => decide (PySem.W.kitOne K (.ref (caK K 9)) (.type "ValueError") = some true))) rfl)
  kit_10_BadHand := of_decide_eq_true (c.fact 143 (f := (fun K => decide (PySem.W.kitOne K (.ref (caK K 10)) (.ref (caK K 9)) = some false))) rfl)
  kit_10_LadderError := of_decide_eq_true (c.fact 144 (f := (fun K => decide (PySem.W.kitOne K (.ref (caK K 10)) (.ref (caK K 0)) = some true))) rfl)
  kit_10_ValueError := of_decide_eq_true (c.fact 145 (f := (fun K => decide (PySem.W.kitOne K (.ref (caK K 10)) (.type "ValueError") = some true))) rfl)
  kit_11_BadGame := of_decide_eq_true (c.fact 146 (f := (fun K => decide (PySem.W.kitOne K (.ref (caK K 11)) (.ref (caK K 4)) = some false))) rfl)
  kit_11_LadderError := of_decide_eq_true (c.fact 147 (f := (fun K => decide (PySem.W.kitOne K (.ref (caK K 11)) (.ref (caK K 0)) = some true))) rfl)
  kit_11_ValueError := of_decide_eq_true (c.fact 148 (f := (fun K => decide (PySem.W.kitOne K (.ref (caK K 11)) (.type "ValueError") = some true))) rfl)
  kit_12_LadderError := of_decide_eq_true (c.fact 149 (f := (fun K => decide (PySem.W.kitOne K (.ref (caK K 12)) (.ref (caK K 0)) = some true))) rfl)
  kit_12_ValueError := of_decide_eq_true (c.fact 150 (f := (fun K => decide (PySem.W.kitOne K (.ref (caK K 12)) (.type "ValueError") = some true))) rfl)
  kit_13_BadBout := of_decide_eq_true (c.fact 151 (f := (fun K => decide (PySem.W.kitOne K (.ref (caK K 13)) (.ref (caK K 12)) = some false))) rfl)
  kit_13_LadderError := of_decide_eq_true (c.fact 152 (f := (fun K => decide (PySem.W.kitOne K (.ref (caK K 13)) (.ref (caK K 0)) = some true))) rfl)
  kit_13_ValueError := of_decide_eq_true (c.fact 153 (f := (fun K => decide (PySem.W.kitOne K (.ref (caK K 13)) (.type "ValueError") = some true))) rfl)
  kit_14_LadderError := of_decide_eq_true (c.fact 154 (f := (fun K => decide (PySem.W.kitOne K (.ref (caK K 14)) (.ref (caK K 0)) = some true))) rfl)
  kit_14_ValueError := of_decide_eq_true (c.fact 155 (f := (fun K => decide (PySem.W.kitOne K (.ref (caK K 14)) (.type "ValueError") = some true))) rfl)
  kit_15_LadderError := of_decide_eq_true (c.fact 156 (f := (fun K => decide (PySem.W.kitOne K (.ref (caK K 15)) (.ref (caK K 0)) = some true))) rfl)
  kit_15_ValueError := of_decide_eq_true (c.fact 157 (f := (fun K => decide (PySem.W.kitOne K (.ref (caK K 15)) (.type "ValueError") = some true))) rfl)
  kit_16_LadderError := of_decide_eq_true (c.fact 158 (f := (fun K => decide (PySem.W.kitOne K (.ref (caK K 16)) (.ref (caK K 0)) = some true))) rfl)
  kit_16_ValueError := of_decide_eq_true (c.fact 159 (f := (fun K => decide (PySem.W.kitOne K (.ref (caK K 16)) (.type "ValueError") = some true))) rfl)
  kit_17_LadderError := of_decide_eq_true (c.fact 160 (f := (fun K => decide (PySem.W.kitOne K (.ref (caK K 17)) (.ref (caK K 0)) = some true))) rfl)
  kit_17_ValueError := of_decide_eq_true (c.fact 161 (f := (fun K => decide (PySem.W.kitOne K (.ref (caK K 17)) (.type "ValueError") = some true))) rfl)
  kit_18_LadderError := of_decide_eq_true (c.fact 162 (f := (fun K => decide (PySem.W.kitOne K (.ref (caK K 18)) (.ref (caK K 0)) = some true))) rfl)
  kit_18_ValueError := of_decide_eq_true (c.fact 163 (f := (fun K => decide (PySem.W.kitOne K (.ref (caK K 18)) (.type "ValueError") = some true))) rfl)
  kit_19_LadderError := of_decide_eq_true (c.fact 164 (f := (fun K => decide (PySem.W.kitOne K (.ref (caK K 19)) (.ref (caK K 0)) = some true))) rfl)
  kit_19_ValueError := of_decide_eq_true (c.fact 165 (f := (fun K => decide (PySem.W.kitOne K (.ref (caK K 19)) (.type "ValueError") = some true))) rfl)
  kit_20_BadText := of_decide_eq_true (c.fact 166 (f := (fun K => decide (PySem.W.kitOne K (.ref (caK K 20)) (.ref (caK K 22)) = some false))) rfl)
  kit_20_LadderError := of_decide_eq_true (c.fact 167 (f := (fun K => decide (PySem.W.kitOne K (.ref (caK K 20)) (.ref (caK K 0)) = some true))) rfl)
  kit_20_ValueError := of_decide_eq_true (c.fact 168 (f := (fun K => decide (PySem.W.kitOne K (.ref (caK K 20)) (.type "ValueError") = some true))) rfl)
  kit_21_LadderError := of_decide_eq_true (c.fact 169 (f := (fun K => decide (PySem.W.kitOne K (.ref (caK K 21)) (.ref (caK K 0)) = some true))) rfl)
  kit_21_ValueError := of_decide_eq_true (c.fact 170 (f := (fun K => decide (PySem.W.kitOne K (.ref (caK K 21)) (.type "ValueError") = some true))) rfl)
  kit_22_LadderError := of_decide_eq_true (c.fact 171 (f := (fun K => decide (PySem.W.kitOne K (.ref (caK K 22)) (.ref (caK K 0)) = some true))) rfl)
  kit_22_ValueError := of_decide_eq_true (c.fact 172 (f := (fun K => decide (PySem.W.kitOne K (.ref (caK K 22)) (.type "ValueError") = some true))) rfl)
  kit_23_LadderError := of_decide_eq_true (c.fact 173 (f := (fun K => decide (PySem.W.kitOne K (.ref (caK K 23)) (.ref (caK K 0)) = some true))) rfl)
  kit_23_ValueError := of_decide_eq_true (c.fact 174 (f := (fun K => decide (PySem.W.kitOne K (.ref (caK K 23)) (.type "ValueError") = some true))) rfl)
  kit_24_KeyError := of_decide_eq_true (c.fact 175 (f := (fun K => decide (PySem.W.kitOne K (.ref (caK K 24)) (.type "KeyError") = some true))) rfl)
  kit_24_LadderError := of_decide_eq_true (c.fact 176 (f := (fun K => decide (PySem.W.kitOne K (.ref (caK K 24)) (.ref (caK K 0)) = some false))) rfl)
  kit_24_ValueError := of_decide_eq_true (c.fact 177 (f := (fun K => decide (PySem.W.kitOne K (.ref (caK K 24)) (.type "ValueError") = some false))) rfl)
  kit_25_LadderError := of_decide_eq_true (c.fact 178 (f := (fun K => decide (PySem.W.kitOne K (.ref (caK K 25)) (.ref (caK K 0)) = some false))) rfl)
  kit_25_OverflowError := of_decide_eq_true (c.fact 179 (f := (fun K => decide (PySem.W.kitOne K (.ref (caK K 25)) (.type "OverflowError") = some true))) rfl)
  kit_25_ValueError := of_decide_eq_true (c.fact 180 (f := (fun K => decide (PySem.W.kitOne K (.ref (caK K 25)) (.type "ValueError") = some false))) rfl)
  kit_26_LadderError := of_decide_eq_true (c.fact 181 (f := (fun K => decide (PySem.W.kitOne K (.ref (caK K 26)) (.ref (caK K 0)) = some false))) rfl)
  kit_26_RuntimeError := of_decide_eq_true (c.fact 182 (f := (fun K => decide (PySem.W.kitOne K (.ref (caK K 26)) (.type "RuntimeError") = some true))) rfl)
  kit_26_ValueError := of_decide_eq_true (c.fact 183 (f := (fun K => decide (PySem.W.kitOne K (.ref (caK K 26)) (.type "ValueError") = some false))) rfl)
end K22
open PySem PySem.W PySem.Calls PyProof.Rows in
theorem K22.holds_of (p : K22.Plain) : PySem.Challenge.rw_liftedladders_k22_errors.Holds := by
  w_on; o_law
  refine HandSHeadRun.head_any (r := OpenLaw.row PySem.Challenge.rw_liftedladders_k22_errors) (q := view (OpenLaw.row PySem.Challenge.rw_liftedladders_k22_errors).prog [33]) (H := K22.hk) (ob := K22.ob) (M := 8000) (loose := K22.loose) (d := HandSHeadRun.topDef (OpenLaw.row PySem.Challenge.rw_liftedladders_k22_errors).prog 33) (kwd := []) K22.ob_eq
    (by kernel_rfl) (fun s => by kernel_rfl) K22.run (by kernel_rfl) (by kernel_rfl) (by kernel_rfl) (by rfl) (by first | assumption | decide +kernel) (by decide +kernel) ⟨rfl, rfl, rfl, rfl, rfl, by decide +kernel⟩ ?hw ?hc
  case hw => w_witness2
  case hc =>
    refine Lad.walk_W (l := PySem.Challenge.rw_liftedladders_k22_errors) (n := 63) (k := 2) (x := "_law_script") rfl (by decide) (by kernel_rfl) ⟨rfl, by decide, by decide⟩ ?F
    intro w mg fa h Y G hmg0
    obtain ⟨K, KX, c⟩ := Y
    have hmg : mg ("law" : PySem.Str) = some (.ref fa) := by
      have e : (HandSHeadRun.topDef (OpenLaw.row PySem.Challenge.rw_liftedladders_k22_errors).prog 33).name = ("law" : PySem.Str) := by kernel_rfl
      rw [← e]
      exact hmg0
    have t := K22.txt KX G c
    have e := hmg.symm.trans t.g_law
    cases e
    refine ⟨K, Lad.fdOf K (He.ga K "law"), _, KX, ?_, fun H a ns hl hO hS => Lad.sp_law (S := ⟨K, (K22.TT K).ca, (K22.TT K).nm, (K22.TT K).fld, _, _, (K22.TT K).ex⟩) t.nl p hl hO hS, fun base _ _ => K22.ok_law t⟩
    obtain ⟨oc, od, kV, doc, pm, an, cdv, ct, osl, e, lk, hcd⟩ := t.F_law.ex
    rw [e]
    exact fun s u => BindsTo.of_eq rfl
end
section
set_option maxRecDepth 10000
namespace Lad
open PySem L2
section
variable (f g f1 f2 f3 : En → Hea → Res Val) (s s1 s2 : En → Hea → SRes) (l l2 : En → Hea → Res (List Val)) (e : En) (h : Hea)
@[simp] theorem ap_seq : sSeq s1 s2 e h = match s1 e h with | .nx e1 h1 => s2 e1 h1 | r => r := rfl
@[simp] theorem ap_nil : sNil e h = .nx e h := rfl
@[simp] theorem ap_set (i) : sSet i f e h = ofR (f e h) e fun d h1 => .nx (e.set i (some d)) h1 := rfl
@[simp] theorem ap_ret : sRet f e h = ofR (f e h) e fun d h1 => .rt d h1 := rfl
@[simp] theorem ap_ex : sEx f e h = ofR (f e h) e fun _ h1 => .nx e h1 := rfl
@[simp] theorem ap_if : sIf f s1 s2 e h = ofR (f e h) e fun d h1 => match d with | .bl true => s1 e h1 | .bl false => s2 e h1 | _ => .stuck := rfl
@[simp] theorem ap_par (is) : sPar is l e h = ofR (l e h) e fun ds h1 => match setAll is ds e with | some e1 => .nx e1 h1 | none => .stuck := rfl
@[simp] theorem ap_asg (b) : sAsg b f e h = ofR (f e h) e fun d h1 => match b d e with | some e1 => .nx e1 h1 | none => .stuck := rfl
@[simp] theorem ap_gT (is xs) : gT is (.tup xs) e = setAll is xs e := rfl
@[simp] theorem ap_gN (i v) : gN i v e = some (e.set i (some v)) := rfl
@[simp] theorem ap_all0 : setAll [] [] e = some e := rfl
@[simp] theorem ap_all1 (i is v vs) : setAll (i :: is) (v :: vs) e = setAll is vs (e.set i (some v)) := rfl
@[simp] theorem ap_ofOk {α : Type} (a : α) (k : α → Hea → SRes) : ofR (.ok a h) e k = k a h := rfl
@[simp] theorem ap_ofExc {α : Type} (c d) (k : α → Hea → SRes) : ofR (.exc c d h) e k = .exc c d e h := rfl
@[simp] theorem ap_bindOk {α β : Type} (a : α) (k : α → Hea → Res β) : (Res.ok a h).bind k = k a h := rfl
@[simp] theorem ap_bindExc {α β : Type} (c d) (k : α → Hea → Res β) : (Res.exc c d h : Res α).bind k = .exc c d h := rfl
@[simp] theorem ap_var (i) : eVar i e h = match e[i]? with | some (some d) => .ok d h | _ => .stuck := rfl
@[simp] theorem ap_c (d) : eC d e h = .ok d h := rfl
@[simp] theorem ap_bin (o) : eBin o f1 f2 e h = (f1 e h).bind fun x h1 => (f2 e h1).bind fun y h2 => opt (o h2 x y) h2 := rfl
@[simp] theorem ap_un (o) : eUn o f e h = (f e h).bind fun x h1 => opt (o h1 x) h1 := rfl
@[simp] theorem ap_and : eAnd f1 f2 e h = (f1 e h).bind fun x h1 => match x with | .bl true => f2 e h1 | .bl false => .ok (.bl false) h1 | _ => .stuck := rfl
@[simp] theorem ap_or : eOr f1 f2 e h = (f1 e h).bind fun x h1 => match x with | .bl true => .ok (.bl true) h1 | .bl false => f2 e h1 | _ => .stuck := rfl
@[simp] theorem ap_eif : eIf f1 f2 f3 e h = (f1 e h).bind fun x h1 => match x with | .bl true => f2 e h1 | .bl false => f3 e h1 | _ => .stuck := rfl
@[simp] theorem ap_anil : aNil e h = .ok [] h := rfl
@[simp] theorem ap_acons : aCons f l e h = (f e h).bind fun x h1 => (l e h1).bind fun xs h2 => .ok (x :: xs) h2 := rfl
@[simp] theorem ap_cb (o) : eCB o l e h = (l e h).bind fun ds h1 => opt (o h1 ds) h1 := rfl
@[simp] theorem ap_call (cf) : eCall cf l e h = (l e h).bind cf := rfl
@[simp] theorem ap_it (o) : eIt o f e h = (f e h).bind fun d h1 => match itemsOf h1 d with | some xs => opt (o xs) h1 | none => .stuck := rfl
@[simp] theorem ap_itL (o) : eItL o l e h = (l e h).bind fun xs h1 => opt (o xs) h1 := rfl
@[simp] theorem ap_tup : eTup l e h = (l e h).bind fun xs h1 => if xs.length ≤ 16777216 then .ok (.tup xs) h1 else .stuck := rfl
@[simp] theorem ap_disp : lDisp l e h = (l e h).bind fun xs h1 => if xs.length ≤ 16777216 then .ok xs h1 else .stuck := rfl
@[simp] theorem ap_new : eNew l e h = (l e h).bind fun xs h1 => .ok (.ref h1.length) (h1 ++ [.lst xs]) := rfl
@[simp] theorem ap_chain (o o') : eChain o o' f1 f2 f3 e h = (f1 e h).bind fun x h1 => (f2 e h1).bind fun y h2 => match o h2 x y with | some (.bl true) => (f3 e h2).bind fun z h3 => opt (o' h3 y z) h3 | some (.bl false) => .ok (.bl false) h2 | _ => .stuck := rfl
@[simp] theorem ap_optS (d) : opt (some d) h = .ok d h := rfl
@[simp] theorem ap_raise (c) : sRaise c f e h = ofR (f e h) e fun d h1 => .exc c d e h1 := rfl
@[simp] theorem ap_yes : eYes e h = .ok (.bl true) h := rfl
@[simp] theorem ap_noX {α : Type} (a : α) : noX (.ok a h) = .ok a h := rfl
@[simp] theorem op_add (a b) : oAdd h (.int a) (.int b) = some (.int (a + b)) := rfl
@[simp] theorem op_mul (a b) : oMul h (.int a) (.int b) = if mulOk a b = true then some (.int (a * b)) else none := rfl
@[simp] theorem op_div (a b) : oDiv h (.int a) (.int b) = if b ≠ 0 ∧ b.natAbs.log2 < 9000 then some (.int (a.fdiv b)) else none := rfl
@[simp] theorem op_mod (a b) : oMod h (.int a) (.int b) = if b ≠ 0 then some (.int (a.fmod b)) else none := rfl
@[simp] theorem op_lt (a b) : oLt h (.int a) (.int b) = some (.bl (decide (a < b))) := rfl
@[simp] theorem op_gt (a b) : oGt h (.int a) (.int b) = some (.bl (decide (b < a))) := rfl
@[simp] theorem op_ge (a b) : oGe h (.int a) (.int b) = some (.bl (decide (b ≤ a))) := rfl
@[simp] theorem op_not (b) : oNot h (.bl b) = some (.bl (!b)) := rfl
@[simp] theorem g_abs' (a) : gAbs h [.int a] = some (.int (a.natAbs : Int)) := by
  show some (Val.int (if a < 0 then -a else a)) = _
  congr 2
  split <;> omega
@[simp] theorem g_int' (a) : gInt h [.int a] = some (.int a) := rfl
@[simp] theorem g_intb (a) : gInt h [.bl a] = some (.int (if a then 1 else 0)) := rfl
@[simp] theorem g_len' (xs) : gLen xs = some (.int xs.length) := rfl
@[simp] theorem it_tup (xs) : itemsOf h (.tup xs) = some xs := rfl
@[simp] theorem it_ref (i) : itemsOf h (.ref i) = lstAt h i := rfl
@[simp] theorem eq_int (a b : Int) : eqB h (.int a) (.int b) = some (decide (a = b)) := by
  unfold eqB
  simp only [toD]
  rw [if_pos ⟨rfl, rfl⟩]
  simp [PyData.eqv]
  rfl
@[simp] theorem eq_bl (a b : Bool) : eqB h (.bl a) (.bl b) = some (decide (a = b)) := by
  unfold eqB
  simp only [toD]
  rw [if_pos ⟨rfl, rfl⟩]
  cases a <;> cases b <;> rfl
@[simp] theorem eq_tup2 (a b c d : Int) : eqB h (.tup [.int a, .int b]) (.tup [.int c, .int d]) = some (decide (a = c ∧ b = d)) := by
  unfold eqB
  simp only [toD, mapO]
  rw [if_pos ⟨rfl, rfl⟩]
  simp only [PyData.eqv, PyData.eqvAll, Bool.and_true]
  by_cases h1 : a = c <;> by_cases h2 : b = d <;> simp [h1, h2]
@[simp] theorem op_eq (a b) : oEq h a b = (eqB h a b).map .bl := rfl
@[simp] theorem op_ne (a b) : oNe h a b = (eqB h a b).map fun c => .bl (!c) := rfl
@[simp] theorem op_ix0 (a b : Val) : oIx h (.tup [a, b]) (.int 0) = some a := rfl
@[simp] theorem op_ix1 (a b : Val) : oIx h (.tup [a, b]) (.int 1) = some b := rfl
end
theorem log2_lt {i : Int} {k : Nat} (h : i.natAbs < 2 ^ k) (hk : 0 < k) : i.natAbs.log2 < k := by
  by_cases hz : i.natAbs = 0
  · rw [hz]; simpa using hk
  · exact (Nat.log2_lt hz).mpr h
theorem mulOk_l {i j : Int} (h : i.natAbs < 2 ^ 64) : mulOk i j = true := by
  unfold mulOk
  rw [Bool.or_eq_true]
  left
  exact decide_eq_true (.inl (by omega))
theorem mulOk_r {i j : Int} (h : j.natAbs < 2 ^ 64) : mulOk i j = true := by
  unfold mulOk
  rw [Bool.or_eq_true]
  left
  exact decide_eq_true (.inr (by omega))
@[simp] theorem fin_same (h : Hea) (d : Val) : fin h d h = .ok d h := by unfold fin; rw [if_pos rfl]
@[simp] theorem finK_same (h : Hea) (d : Val) : finK h d h = .ok d h := by unfold finK; rw [if_pos rfl]
theorem fin_len {h h' : Hea} {d : Val} (hl : h'.length = h.length) : fin h d h' = .ok d h' := by unfold fin; rw [if_pos hl]
theorem run_rt {fn : Hea → Val → Hea → Res Val} {np ns : Nat} {b : En → Hea → SRes} {ds : List Val} {h h' : Hea} {d : Val} (hl : ds.length = np) (e : b (startE ns ds) h = .rt d h') : runG fn np ns b ds h = fn h d h' := by unfold runG; rw [if_pos hl, e]
section
variable {f : En → Hea → Res Val} {l : En → Hea → Res (List Val)} {s s1 s2 : En → Hea → SRes} {e e1 : En} {h h1 : Hea} {d : Val} {ds : List Val} {r : SRes}
theorem seq_nx (a : s1 e h = .nx e1 h1) (b : s2 e1 h1 = r) : sSeq s1 s2 e h = r := by simp [a, b]
theorem seq_if_no (a : f e h = .ok (.bl false) h1) (b : s2 e h1 = r) : sSeq (sIf f s1 sNil) s2 e h = r := by simp [a, b]
theorem if_no (a : f e h = .ok (.bl false) h1) : sIf f s1 sNil e h = .nx e h1 := by simp [a]
theorem seq_set {i : Nat} (a : f e h = .ok d h1) (b : s2 (e.set i (some d)) h1 = r) : sSeq (sSet i f) s2 e h = r := by simp [a, b]
theorem ret_ok (a : f e h = .ok d h1) : sRet f e h = .rt d h1 := by simp [a]
end
section
variable {src : En → Hea → Res Src} {b : Val → En → Option En} {body : En → Hea → SRes} {e : En} {h h1 : Hea} {xs : List Val} {dead : List Nat}
theorem forK_eq (a : src e h = .ok (srcFix xs) h1) : sForK dead src b body e h = forKL (gcN dead h1.length) b body xs e h1 := by
  unfold sForK
  rw [a]
  rfl
/-- each turn ends as it began -/
theorem forKL_const {gc : En → Hea → En × Hea} (w : ∀ v ∈ xs, ∃ e1 e2 h2, b v e = some e1 ∧ body e1 h = .nx e2 h2 ∧ gc e2 h2 = (e, h)) : forKL gc b body xs e h = .nx e h := by
  induction xs with
  | nil => rfl
  | cons v vs ih =>
    obtain ⟨e1, e2, h2, a1, a2, a3⟩ := w v List.mem_cons_self
    unfold forKL
    simp only [a1, a2, a3]
    exact ih fun u hu => w u (List.mem_cons_of_mem _ hu)
end
section
variable {f f1 f2 f3 : En → Hea → Res Val} {l : En → Hea → Res (List Val)} {e : En} {h h1 h2 : Hea} {r : Res Val} {d d2 d3 : Val} {ds : List Val}
theorem or_no (a : f1 e h = .ok (.bl false) h1) (b : f2 e h1 = r) : eOr f1 f2 e h = r := by simp only [ap_or, a, ap_bindOk]; exact b
theorem not_ok {b : Bool} (a : f e h = .ok (.bl b) h1) : eUn oNot f e h = .ok (.bl (!b)) h1 := by simp only [ap_un, a, ap_bindOk]; rfl
theorem bin_ok {o : Hea → Val → Val → Option Val} (a : f1 e h = .ok d h1) (b : f2 e h1 = .ok d2 h2) (c : o h2 d d2 = some d3) : eBin o f1 f2 e h = .ok d3 h2 := by simp only [ap_bin, a, ap_bindOk, b, c, ap_optS]
theorem acons_ok {xs : List Val} (a : f e h = .ok d h1) (b : l e h1 = .ok xs h2) : aCons f l e h = .ok (d :: xs) h2 := by simp only [ap_acons, a, ap_bindOk, b]
theorem disp_ok (a : l e h = .ok ds h1) (hl : ds.length ≤ 16777216) : lDisp l e h = .ok ds h1 := by simp only [ap_disp, a, ap_bindOk, if_pos hl]
theorem tmp_ok (a : l e h = .ok ds h1) : iTmp l e h = .ok (srcFix ds) h1 := by show (l e h).bind _ = _; rw [a]; rfl
theorem call_eq {cf : List Val → Hea → Res Val} (a : l e h = .ok ds h1) (b : cf ds h1 = r) : eCall cf l e h = r := by simp only [ap_call, a, ap_bindOk]; exact b
end
@[simp] theorem src_seqT (f : En → Hea → Res Val) (e : En) (h : Hea) : iSeq f e h = (f e h).bind fun d h1 => match d with
  | .ref i => if (lstAt h1 i).isSome = true then .ok (srcLive i) h1 else .stuck
  | .tup xs => .ok (srcFix xs) h1
  | .lst xs => .ok (srcFix xs) h1
  | _ => .stuck := rfl
@[simp] theorem src_tmp (f : En → Hea → Res (List Val)) (e : En) (h : Hea) : iTmp f e h = (f e h).bind fun xs h1 => .ok (srcFix xs) h1 := rfl
@[simp] theorem ap_lst (l : En → Hea → Res (List Val)) (e : En) (h : Hea) : eLst l e h = (l e h).bind fun xs h1 => .ok (.lst xs) h1 := rfl
@[simp] theorem ls_lst (h : Hea) (xs : List Val) : lstOf h (.lst xs) = some xs := rfl
@[simp] theorem it_lst (h : Hea) (xs : List Val) : itemsOf h (.lst xs) = some xs := rfl
end Lad
end
section
set_option maxRecDepth 10000
namespace Lad
end Lad
end
section
set_option maxRecDepth 10000
namespace Lad
open PySem L2
@[simp] theorem ap_setIx (fv fo fi : En → Hea → Res Val) (e : En) (h : Hea) : sSetIx fv fo fi e h = ofR ((fv e h).bind fun v h1 => (fo e h1).bind fun o h2 => (fi e h2).bind fun i h3 => match setIx h3 o i v with
    | some h4 => .ok Val.non h4
    | none => .stuck) e fun _ h4 => .nx e h4 := rfl
/-- the script, a pool of a number and a state, and what else is held -/
abbrev Hp2 (ns : List Int) (a b : Int) (t : Hea) : Hea := .fro ns :: .lst [.int a, .int b] :: t
section
variable (ns : List Int) (a b : Int) (t : Hea)
@[simp] theorem hp2_ix0 : oIx (Hp2 ns a b t) (.ref 1) (.int 0) = some (.int a) := rfl
@[simp] theorem hp2_ix1 : oIx (Hp2 ns a b t) (.ref 1) (.int 1) = some (.int b) := rfl
@[simp] theorem hp2_set0 (v : Int) : setIx (Hp2 ns a b t) (.ref 1) (.int 0) (.int v) = some (Hp2 ns v b t) := rfl
@[simp] theorem hp2_set1 (v : Int) : setIx (Hp2 ns a b t) (.ref 1) (.int 1) (.int v) = some (Hp2 ns a v t) := rfl
end
def PoolOk (a b : Int) : Prop := 0 ≤ a ∧ 0 ≤ b ∧ b < 2147483647
end Lad
namespace Drw
open PySem L2 Lad
def b__law_draw : En → Hea → SRes := (sSeq (sIf (eBin oGt (eBin oIx (eVar 0) (eC (.int 0))) (eC (.int 0))) (sSeq (sSet 2 (eBin oMod (eCB gInt (aCons (eBin oIx (eVar 0) (eC (.int 0))) aNil)) (eVar 1)))
  (sSeq (sSetIx (eBin oDiv (eBin oIx (eVar 0) (eC (.int 0))) (eVar 1)) (eVar 0) (eC (.int 0)))
  (sRet (eVar 2)))) sNil)
  (sSeq (sSetIx (eBin oMod (eCB gInt (aCons (eBin oAdd (eBin oMul (eBin oIx (eVar 0) (eC (.int 1))) (eC (.int 48271))) (eC (.int 11))) aNil)) (eC (.int 2147483647))) (eVar 0) (eC (.int 1)))
  (sRet (eBin oMod (eCB gInt (aCons (eBin oDiv (eBin oMod (eCB gInt (aCons (eBin oMul (eBin oIx (eVar 0) (eC (.int 1))) (eBin oIx (eVar 0) (eC (.int 1)))) aNil)) (eC (.int 2147483629))) (eC (.int 16))) aNil)) (eVar 1)))))
def c__law_draw : List Val → Hea → Res Val := runB 2 3 b__law_draw
theorem draw_ok (ns : List Int) (t : Hea) {a b m : Int} (P : PoolOk a b) (hm : 0 < m) (lm : m.natAbs.log2 < 9000) :
    ∃ r a' b' : Int, 0 ≤ r ∧ r < m ∧ PoolOk a' b' ∧ c__law_draw [.ref 1, .int m] (Hp2 ns a b t) = .ok (.int r) (Hp2 ns a' b' t) := by
  obtain ⟨ha, hb, hb2⟩ := P
  have hm' : ¬ m = 0 := by omega
  unfold c__law_draw runB runG b__law_draw
  by_cases h0 : 0 < a
  · refine ⟨a.fmod m, a.fdiv m, b, Int.fmod_nonneg_of_pos _ hm, Int.fmod_lt_of_pos _ hm, ⟨Int.fdiv_nonneg ha (by omega), hb, hb2⟩, ?_⟩
    simp [startE, h0, hm', lm]
    exact fin_len rfl
  · have a0 : a = 0 := by omega
    subst a0
    have m1 : mulOk b 48271 = true := mulOk_r (by decide)
    have nb : 0 ≤ (b * 48271 + 11).fmod 2147483647 := Int.fmod_nonneg_of_pos _ (by decide)
    have nb2 : (b * 48271 + 11).fmod 2147483647 < 2147483647 := Int.fmod_lt_of_pos _ (by decide)
    generalize hn : (b * 48271 + 11).fmod 2147483647 = nb' at nb nb2
    have m2 : mulOk nb' nb' = true := mulOk_r (by omega)
    refine ⟨(((nb' * nb').fmod 2147483629).fdiv 16).fmod m, 0, nb', Int.fmod_nonneg_of_pos _ hm, Int.fmod_lt_of_pos _ hm, ⟨Int.le_refl _, nb, nb2⟩, ?_⟩
    have l16 : Nat.log2 16 < 9000 := by decide
    simp [startE, m1, hn, m2, hm', l16]
    exact fin_len rfl
theorem pow18 (h : Hea) : oPow h (.int 10) (.int 18) = some (.int 1000000000000000000) := rfl
end Drw
end
section
set_option maxRecDepth 10000
set_option maxHeartbeats 1000000
namespace Drw
open PySem L2 Lad
def b_poolA : En → Hea → SRes := (sSeq (sSet 2 (eIf (eBin oLt (eVar 1) (eIt gLen (eVar 0))) (eBin oIx (eVar 0) (eVar 1)) (eBin oAdd (eBin oMul (eC (.int 7)) (eItL gSum (lCut (eVar 0) none (some (eC (.int 63)))))) (eVar 1))))
  (sSeq (sSet 3 (eCB gAbs (aCons (eVar 2) aNil)))
  (sSeq (sSet 4 (eBin oAdd (eBin oAdd (eBin oAdd (eBin oMod (eCB gInt (aCons (eVar 3) aNil)) (eC (.int 2147483629))) (eBin oMul (eBin oMul (eC (.int 7919)) (eVar 1)) (eVar 1))) (eBin oMul (eC (.int 31)) (eVar 1))) (eC (.int 17))))
  (sSeq (sSet 4 (eBin oMod (eCB gInt (aCons (eBin oMul (eVar 4) (eC (.int 48271))) aNil)) (eC (.int 2147483647))))
  (sRet (eNew (lDisp (aCons (eBin oMul (eVar 3) (eCB gInt (aCons (eBin oGe (eVar 3) (eBin oPow (eC (.int 10)) (eC (.int 18)))) aNil))) (aCons (eBin oMod (eCB gInt (aCons (eBin oMul (eVar 4) (eVar 4)) aNil)) (eC (.int 2147483629))) aNil)))))))))
def c_poolA : List Val → Hea → Res Val := runK 2 5 b_poolA
theorem ints_map : ∀ ns : List Int, ints? (ns.map Val.int) = some ns
  | [] => rfl
  | n :: ns => by simp [ints?, ints_map ns]
theorem sum_cut (ns : List Int) (lo hi : Option Int) : ∃ m : Int, gSum (cutL (ns.map Val.int) lo hi) = some (.int m) := by
  unfold cutL
  generalize HT.sIx (ns.map Val.int).length 0 lo = a
  generalize HT.sIx (ns.map Val.int).length (ns.map Val.int).length hi = b
  refine ⟨((ns.drop a).take (b - a)).sum, ?_⟩
  rw [← List.map_drop, ← List.map_take]
  unfold gSum
  rw [ints_map]
  rfl
theorem poolA_aux (ns : List Int) (kk y : Int) (kk0 : 0 ≤ kk) (kk1 : kk < 64) (ey : eIf (eBin oLt (eVar 1) (eIt gLen (eVar 0))) (eBin oIx (eVar 0) (eVar 1)) (eBin oAdd (eBin oMul (eC (.int 7)) (eItL gSum (lCut (eVar 0) none (some (eC (.int 63)))))) (eVar 1)) (startE 5 [.ref 0, .int kk]) [.fro ns] = .ok (.int y) [.fro ns]) : ∃ a b : Int, PoolOk a b ∧ c_poolA [.ref 0, .int kk] [.fro ns] = .ok (.ref 1) (Hp2 ns a b []) := by
  generalize hz : (y.natAbs : Int) = z
  have z0 : 0 ≤ z := by omega
  generalize hv : z.fmod 2147483629 + 7919 * kk * kk + 31 * kk + 17 = v
  have kk2 : 7919 * kk * kk ≤ 7919 * 64 * 64 := by
    have h1 : 7919 * kk ≤ 7919 * 64 := by omega
    exact Int.mul_le_mul h1 (by omega) kk0 (by decide)
  have kk3 : 0 ≤ 7919 * kk * kk := Int.mul_nonneg (by omega) kk0
  have f0 := Int.fmod_nonneg_of_pos z (b := 2147483629) (by decide)
  have f1 := Int.fmod_lt_of_pos z (b := 2147483629) (by decide)
  have v0 : 0 ≤ v := by omega
  generalize hw : (v * 48271).fmod 2147483647 = w
  have w1 : 0 ≤ w := by
    have := Int.fmod_nonneg_of_pos (v * 48271) (b := 2147483647) (by decide)
    omega
  have w2 : w < 2147483647 := by
    have := Int.fmod_lt_of_pos (v * 48271) (b := 2147483647) (by decide)
    omega
  have m1 : mulOk 7919 kk = true := mulOk_l (by decide)
  have m2 : mulOk (7919 * kk) kk = true := mulOk_r (by omega)
  have m5 : mulOk 31 kk = true := mulOk_l (by decide)
  have m6 : mulOk v 48271 = true := mulOk_r (by decide)
  have m3 : ∀ c : Bool, mulOk z (if c = true then 1 else 0) = true := fun c => mulOk_r (by cases c <;> decide)
  have m4 : mulOk w w = true := mulOk_r (by omega)
  refine ⟨z * (if decide (1000000000000000000 ≤ z) = true then 1 else 0), (w * w).fmod 2147483629, ⟨?_, Int.fmod_nonneg_of_pos _ (by decide), ?_⟩, ?_⟩
  · split <;> omega
  · have := Int.fmod_lt_of_pos (w * w) (b := 2147483629) (by decide)
    omega
  · refine (run_rt (fn := finK) (d := .ref 1) (h' := [.fro ns, .lst [.int (z * (if decide (1000000000000000000 ≤ z) = true then 1 else 0)), .int ((w * w).fmod 2147483629)]]) rfl ?_).trans ?_
    · unfold b_poolA
      refine seq_set ey ?_
      refine seq_set (d := .int z) (h1 := [.fro ns]) (by rw [← hz]; simp [startE]) ?_
      refine seq_set (d := .int v) (h1 := [.fro ns]) ?_ ?_
      · rw [← hv]
        simp [startE, m1, m2, m5]
      refine seq_set (d := .int w) (h1 := [.fro ns]) ?_ ?_
      · rw [← hw]
        simp [startE, m6]
      · generalize hE : ((((startE 5 [Val.ref 0, Val.int kk]).set 2 (some (Val.int y))).set 3 (some (Val.int z))).set 4 (some (Val.int v))).set 4 (some (Val.int w)) = E
        have v3 : eVar 3 E [.fro ns] = .ok (.int z) [.fro ns] := by rw [← hE]; rfl
        have v4 : eVar 4 E [.fro ns] = .ok (.int w) [.fro ns] := by rw [← hE]; rfl
        have g1 : eBin oGe (eVar 3) (eBin oPow (eC (.int 10)) (eC (.int 18))) E [.fro ns] = .ok (.bl (decide (1000000000000000000 ≤ z))) [.fro ns] := bin_ok v3 (bin_ok rfl rfl (pow18 _)) (Lad.op_ge _ _ _)
        have m3' := m3 (decide (1000000000000000000 ≤ z))
        generalize decide (1000000000000000000 ≤ z) = c at *
        have g2 : eCB gInt (aCons (eBin oGe (eVar 3) (eBin oPow (eC (.int 10)) (eC (.int 18)))) aNil) E [.fro ns] = .ok (.int (if c = true then 1 else 0)) [.fro ns] := by simp only [ap_cb, ap_acons, g1, ap_bindOk, ap_anil, g_intb, ap_optS]
        have g3 : eBin oMul (eVar 3) (eCB gInt (aCons (eBin oGe (eVar 3) (eBin oPow (eC (.int 10)) (eC (.int 18)))) aNil)) E [.fro ns] = .ok (.int (z * (if c = true then 1 else 0))) [.fro ns] := bin_ok v3 g2 (by simp only [Lad.op_mul, m3', if_true])
        have g4 : eBin oMul (eVar 4) (eVar 4) E [.fro ns] = .ok (.int (w * w)) [.fro ns] := bin_ok v4 v4 (by simp only [Lad.op_mul, m4, if_true])
        have g5 : eBin oMod (eCB gInt (aCons (eBin oMul (eVar 4) (eVar 4)) aNil)) (eC (.int 2147483629)) E [.fro ns] = .ok (.int ((w * w).fmod 2147483629)) [.fro ns] := bin_ok (d := .int (w * w)) (by simp only [ap_cb, ap_acons, g4, ap_bindOk, ap_anil, g_int', ap_optS]) rfl (by rw [Lad.op_mod, if_pos (by decide)])
        refine ret_ok ?_
        show (lDisp _ _ _).bind _ = _
        rw [disp_ok (acons_ok g3 (acons_ok g5 rfl)) (Nat.le_of_ble_eq_true rfl)]
        rfl
    · rfl
theorem poolA_ok (ns : List Int) (k : Nat) (hk : k < 64) : ∃ a b : Int, PoolOk a b ∧ c_poolA [.ref 0, .int k] [.fro ns] = .ok (.ref 1) (Hp2 ns a b []) := by
  have e3 : eVar 0 (startE 5 [.ref 0, .int k]) [.fro ns] = .ok (.ref 0) [.fro ns] := rfl
  have e2 : eVar 1 (startE 5 [.ref 0, .int k]) [.fro ns] = .ok (.int k) [.fro ns] := rfl
  have e1 : eIt gLen (eVar 0) (startE 5 [.ref 0, .int k]) [.fro ns] = .ok (.int ns.length) [.fro ns] := by simp [startE, lstAt]
  have hs : ∃ z : Int, eIf (eBin oLt (eVar 1) (eIt gLen (eVar 0))) (eBin oIx (eVar 0) (eVar 1)) (eBin oAdd (eBin oMul (eC (.int 7)) (eItL gSum (lCut (eVar 0) none (some (eC (.int 63)))))) (eVar 1)) (startE 5 [.ref 0, .int k]) [.fro ns] = .ok (.int z) [.fro ns] := by
    by_cases hl : k < ns.length
    · have ei : oIx [Ob.fro ns] (.ref 0) (.int k) = some (.int ns[k]) := by
        show L2.atI (ns.map Val.int) (k : Int) = _
        unfold L2.atI L2.ixN
        rw [if_pos (by omega), if_pos (by simp; omega)]
        simp [hl]
      have hd : decide ((k : Int) < (ns.length : Int)) = true := decide_eq_true (by omega)
      generalize ns[k] = z at ei
      refine ⟨z, ?_⟩
      generalize (k : Int) = kk at *
      generalize (ns.length : Int) = nn at *
      simp only [ap_eif, ap_bin, e1, e2, e3, ap_bindOk, Lad.op_lt, ap_optS, hd, ei]
    · have hd : decide ((k : Int) < (ns.length : Int)) = false := decide_eq_false (by omega)
      have e4 : lCut (eVar 0) none (some (eC (.int 63))) (startE 5 [.ref 0, .int k]) [.fro ns] = .ok (cutL (ns.map Val.int) none (some 63)) [.fro ns] := rfl
      have e5 := sum_cut ns none (some 63)
      obtain ⟨m, e5⟩ := e5
      have m7 : mulOk 7 m = true := mulOk_l (by decide)
      refine ⟨7 * m + k, ?_⟩
      generalize (k : Int) = kk at *
      generalize (ns.length : Int) = nn at *
      simp only [ap_eif, ap_bin, e1, e2, ap_bindOk, Lad.op_lt, ap_optS, hd, ap_c, ap_itL, e4, e5, Lad.op_mul, m7, if_true, Lad.op_add]
  obtain ⟨y, ey⟩ := hs
  exact poolA_aux ns k y (by omega) (by omega) ey
end Drw
end
section
set_option maxRecDepth 10000
set_option maxHeartbeats 1000000
namespace Lad
open PySem L2
/-- the cells of a law: max(1, min(len(script), K)) of them -/
theorem cells (ns : List Int) (K : Nat) (h1K : 1 ≤ K) (hK : K ≤ 63) (e : En) (e0 : e[0]? = some (some (.ref 0))) : ∃ m : Nat, m ≤ K ∧ iRng1V (aCons (eCB gMax2 (aCons (eC (.int 1)) (aCons (eCB gMin2 (aCons (eIt gLen (eVar 0)) (aCons (eC (.int K)) aNil))) aNil))) aNil) e [.fro ns] = .ok (srcFix (rangeV 0 m)) [.fro ns] := by
  have e1 : eIt gLen (eVar 0) e [.fro ns] = .ok (.int ns.length) [.fro ns] := by simp [e0, lstAt]
  obtain ⟨m, m1, m3, e2⟩ : ∃ m : Nat, 1 ≤ m ∧ m ≤ K ∧ eCB gMax2 (aCons (eC (.int 1)) (aCons (eCB gMin2 (aCons (eIt gLen (eVar 0)) (aCons (eC (.int K)) aNil))) aNil)) e [.fro ns] = .ok (.int m) [.fro ns] := by
    have e3 : ∃ x : Nat, x ≤ K ∧ eCB gMin2 (aCons (eIt gLen (eVar 0)) (aCons (eC (.int K)) aNil)) e [.fro ns] = .ok (.int x) [.fro ns] := by
      rw [ap_cb, acons_ok e1 (acons_ok (d := .int K) rfl rfl), ap_bindOk]
      by_cases h3 : K < ns.length
      · refine ⟨K, by omega, ?_⟩
        show opt (some (Val.int (if (K : Int) < (ns.length : Int) then K else (ns.length : Int)))) _ = _
        rw [if_pos (by omega)]; rfl
      · refine ⟨ns.length, by omega, ?_⟩
        show opt (some (Val.int (if (K : Int) < (ns.length : Int) then K else (ns.length : Int)))) _ = _
        rw [if_neg (by omega)]; rfl
    obtain ⟨x, x3, ex⟩ := e3
    rw [ap_cb, acons_ok (d := .int 1) rfl (acons_ok ex rfl), ap_bindOk]
    by_cases h1 : 1 < x
    · refine ⟨x, by omega, x3, ?_⟩
      show opt (some (Val.int (if (x : Int) > 1 then (x : Int) else 1))) _ = _
      rw [if_pos (by omega)]; rfl
    · refine ⟨1, by omega, by omega, ?_⟩
      show opt (some (Val.int (if (x : Int) > 1 then (x : Int) else 1))) _ = _
      rw [if_neg (by omega)]; rfl
  refine ⟨m, m3, ?_⟩
  unfold iRng1V
  rw [acons_ok e2 rfl, ap_bindOk]
  show (if rngOk (m : Int) = true then Res.ok (srcFix (rangeV 0 (m : Int).toNat)) [.fro ns] else Res.stuck) = _
  rw [if_pos (by unfold rngOk; exact decide_eq_true ⟨by omega, by omega⟩)]
  rfl
/-- each cell leaves the heap as it was, but for what is younger -/
theorem cell_loop (ns : List Int) (K : Nat) (h1K : 1 ≤ K) (hK : K ≤ 63) {dead : List Nat} {b : Val → En → Option En} {body : En → Hea → SRes} {e : En} (e0 : e[0]? = some (some (.ref 0)))
    (w : ∀ k : Nat, k < K → ∃ e1 e2 h2, b (.int k) e = some e1 ∧ body e1 [.fro ns] = .nx e2 h2 ∧ gcN dead 1 e2 h2 = (e, [.fro ns])) :
    sForK dead (iRng1V (aCons (eCB gMax2 (aCons (eC (.int 1)) (aCons (eCB gMin2 (aCons (eIt gLen (eVar 0)) (aCons (eC (.int K)) aNil))) aNil))) aNil)) b body e [.fro ns] = .nx e [.fro ns] := by
  obtain ⟨m, hm, em⟩ := cells ns K h1K hK e e0
  rw [forK_eq em]
  refine forKL_const fun v hv => ?_
  unfold rangeV at hv
  obtain ⟨k, hk, rfl⟩ := List.mem_map.mp hv
  rw [List.mem_range] at hk
  rw [Int.zero_add]
  exact w k (by omega)
end Lad
end
section
set_option maxRecDepth 10000
set_option maxHeartbeats 1000000
namespace Bk
open PySem L2 Lad
@[simp] theorem fld_bk (h : Hea) (n : Nat) (f : En → Hea → Res Val) (e : En) : eFld (Nat.beq 30) n f e h = (f e h).bind fun o h1 => match insOf h1 o with
  | some (c, fs) => if Nat.beq 30 c = true then (match lkF fs n with
    | some d => .ok d h1
    | none => .stuck) else .stuck
  | none => .stuck := rfl
@[simp] theorem ap_aug (i : Nat) (o : Int → Int → Int) (f : En → Hea → Res Val) (e : En) (h : Hea) : sAug i o f e h = match e[i]? with
  | some (some (.int x)) => ofR (f e h) e fun d h1 => match d with
    | .int y => .nx (e.set i (some (.int (o x y)))) h1
    | _ => .stuck
  | _ => .stuck := rfl
end Bk
end
section
set_option maxRecDepth 10000
set_option maxHeartbeats 1000000
namespace Bk
open PySem L2 Lad
@[simp] theorem ap_meth (c n : Nat) (cf : List Val → Hea → Res Val) (f : En → Hea → Res Val) (g : En → Hea → Res (List Val)) (e : En) (h : Hea) : eMeth c n cf f g e h = (f e h).bind fun o h1 => match insOf h1 o with
  | some (c', fs) => if c' = c ∧ noF fs n = true then (g e h1).bind fun ds h2 => cf (o :: ds) h2 else .stuck
  | none => .stuck := rfl
end Bk
end
section
set_option maxRecDepth 10000
set_option maxHeartbeats 1000000
namespace Bk
open PySem L2 Lad
end Bk
end
section
set_option maxRecDepth 10000
set_option maxHeartbeats 1000000
namespace Lad
open PySem L2
end Lad
end
section
set_option maxRecDepth 10000
set_option maxHeartbeats 1000000
namespace Bk
open PySem L2 Lad
end Bk
end
section
set_option maxRecDepth 10000
set_option maxHeartbeats 1000000
namespace Bk
open PySem L2 Lad
end Bk
end
section
set_option maxRecDepth 10000
namespace Lad
open PySem L2
def noB : Nat → Val → Bool
  | _, .non => true
  | _, .int _ => true
  | _, .str x => PyData.strOk x
  | n + 1, .tup xs => xs.all (noB n)
  | n + 1, .lst xs => xs.all (noB n)
  | _, _ => false
theorem mapO_all {α β : Type} {f : α → Option β} {P : β → Prop} : ∀ {xs : List α}, (∀ x ∈ xs, ∃ y, f x = some y ∧ P y) → ∃ ys, mapO f xs = some ys ∧ ∀ y ∈ ys, P y
  | [], _ => ⟨[], rfl, fun _ h => nomatch h⟩
  | x :: xs, w => by
    obtain ⟨y, e, p⟩ := w x List.mem_cons_self
    obtain ⟨ys, es, ps⟩ := mapO_all (xs := xs) fun z hz => w z (List.mem_cons_of_mem _ hz)
    refine ⟨y :: ys, by simp only [mapO, e, es], fun z hz => ?_⟩
    rcases List.mem_cons.mp hz with rfl | hz
    · exact p
    · exact ps z hz
theorem canAll : ∀ {ys : List PyData}, (∀ y ∈ ys, y.canLay0 = true) → PyData.canLayAll0 ys = true
  | [], _ => by unfold PyData.canLayAll0; rfl
  | y :: ys, w => by
    unfold PyData.canLayAll0
    rw [w y List.mem_cons_self, canAll fun z hz => w z (List.mem_cons_of_mem _ hz)]
    rfl
theorem depAll {n : Nat} : ∀ {ys : List PyData}, (∀ y ∈ ys, y.depth ≤ n) → PyData.depthAll ys ≤ n
  | [], _ => by unfold PyData.depthAll; omega
  | y :: ys, w => by
    unfold PyData.depthAll
    have h1 := w y List.mem_cons_self
    have h2 := depAll (ys := ys) fun z hz => w z (List.mem_cons_of_mem _ hz)
    omega
theorem toD_spec (h : Hea) : ∀ (n m : Nat) (d : Val), n ≤ m → noB n d = true → ∃ p, toD m h d = some p ∧ p.canLay0 = true ∧ p.depth ≤ n + 1
  | n, m, .non, _, _ => ⟨.none, by unfold toD; rfl, by simp [PyData.canLay0], by simp [PyData.depth]⟩
  | n, m, .int i, _, _ => ⟨.int i, by unfold toD; rfl, by simp [PyData.canLay0], by simp [PyData.depth]⟩
  | n, m, .str x, _, e => ⟨.str x, by unfold toD; rfl, by
    have : PyData.strOk x = true := by cases n <;> exact e
    simpa [PyData.canLay0] using this, by simp [PyData.depth]⟩
  | n + 1, m + 1, .tup xs, hm, e => by
    have hx : ∀ x ∈ xs, noB n x = true := fun x hx => List.all_eq_true.mp e x hx
    obtain ⟨ys, es, ps⟩ := mapO_all (f := toD m h) (P := fun p => p.canLay0 = true ∧ p.depth ≤ n + 1) (xs := xs) fun x hx' => toD_spec h n m x (by omega) (hx x hx')
    refine ⟨.tuple ys, by unfold toD; rw [es], ?_, ?_⟩
    · unfold PyData.canLay0; exact canAll fun y hy => (ps y hy).1
    · unfold PyData.depth
      have := depAll fun y hy => (ps y hy).2
      omega
  | n + 1, m + 1, .lst xs, hm, e => by
    have hx : ∀ x ∈ xs, noB n x = true := fun x hx => List.all_eq_true.mp e x hx
    obtain ⟨ys, es, ps⟩ := mapO_all (f := toD m h) (P := fun p => p.canLay0 = true ∧ p.depth ≤ n + 1) (xs := xs) fun x hx' => toD_spec h n m x (by omega) (hx x hx')
    refine ⟨.list ys, by unfold toD; rw [es], ?_, ?_⟩
    · unfold PyData.canLay0; exact canAll fun y hy => (ps y hy).1
    · unfold PyData.depth
      have := depAll fun y hy => (ps y hy).2
      omega
  | 0, _, .tup _, _, e => by cases e
  | 0, _, .lst _, _, e => by cases e
  | 0, _, .bl _, _, e => by cases e
  | 0, _, .dic _ _ _, _, e => by cases e
  | 0, _, .obj _ _ _, _, e => by cases e
  | 0, _, .ref _, _, e => by cases e
  | 0, _, .exn _ _, _, e => by cases e
  | 0, _, .err _ _, _, e => by cases e
  | _ + 1, _, .bl _, _, e => by cases e
  | _ + 1, _, .dic _ _ _, _, e => by cases e
  | _ + 1, _, .obj _ _ _, _, e => by cases e
  | _ + 1, _, .ref _, _, e => by cases e
  | _ + 1, _, .exn _ _, _, e => by cases e
  | _ + 1, _, .err _ _, _, e => by cases e
  | n + 1, 0, .tup _, hm, _ => by omega
  | n + 1, 0, .lst _, hm, _ => by omega
theorem mapO_inv {α β : Type} {f : α → Option β} : ∀ {xs : List α} {ys : List β}, mapO f xs = some ys → xs.length = ys.length ∧ ∀ i (h1 : i < xs.length) (h2 : i < ys.length), f xs[i] = some ys[i]
  | [], ys, e => by cases e; exact ⟨rfl, fun i h => by simp at h⟩
  | x :: xs, ys, e => by
    unfold mapO at e
    split at e
    · rename_i y zs e1 e2
      cases e
      obtain ⟨l, w⟩ := mapO_inv e2
      refine ⟨by simp [l], fun i h1 h2 => ?_⟩
      cases i with
      | zero => exact e1
      | succ i => exact w i (by simpa using h1) (by simpa using h2)
    · cases e
theorem eqvAll_iff {f : Val → Option PyData} {P : Val → Prop} (w : ∀ x, P x → ∀ y, P y → ∀ p q, f x = some p → f y = some q → (PyData.eqv p q = true ↔ x = y)) : ∀ {xs ys : List Val} {ps qs : List PyData}, (∀ x ∈ xs, P x) → (∀ y ∈ ys, P y) → mapO f xs = some ps → mapO f ys = some qs → (PyData.eqvAll ps qs = true ↔ xs = ys)
  | [], [], _, _, _, _, e1, e2 => by cases e1; cases e2; unfold PyData.eqvAll; simp
  | [], y :: ys, _, qs, _, _, e1, e2 => by
    cases e1
    have := (mapO_inv e2).1
    cases qs with
    | nil => simp at this
    | cons q qs => unfold PyData.eqvAll; simp
  | x :: xs, [], ps, _, _, _, e1, e2 => by
    cases e2
    have := (mapO_inv e1).1
    cases ps with
    | nil => simp at this
    | cons q qs => unfold PyData.eqvAll; simp
  | x :: xs, y :: ys, ps, qs, hx, hy, e1, e2 => by
    unfold mapO at e1 e2
    split at e1
    · rename_i p ps' a1 a2
      cases e1
      split at e2
      · rename_i q qs' b1 b2
        cases e2
        have i1 := w x (hx x List.mem_cons_self) y (hy y List.mem_cons_self) p q a1 b1
        have i2 := eqvAll_iff w (fun z hz => hx z (List.mem_cons_of_mem _ hz)) (fun z hz => hy z (List.mem_cons_of_mem _ hz)) a2 b2
        unfold PyData.eqvAll
        rw [Bool.and_eq_true, i1, i2, List.cons.injEq]
      · cases e2
    · cases e1
theorem toD_inv_tup {m : Nat} {h : Hea} {xs : List Val} {p : PyData} (e : toD m h (.tup xs) = some p) : ∃ n ps, m = n + 1 ∧ mapO (toD n h) xs = some ps ∧ p = .tuple ps := by
  cases m with
  | zero => unfold toD at e; cases e
  | succ n =>
    unfold toD at e
    split at e
    · rename_i ys e1; cases e; exact ⟨n, ys, rfl, e1, rfl⟩
    · cases e
theorem toD_inv_lst {m : Nat} {h : Hea} {xs : List Val} {p : PyData} (e : toD m h (.lst xs) = some p) : ∃ n ps, m = n + 1 ∧ mapO (toD n h) xs = some ps ∧ p = .list ps := by
  cases m with
  | zero => unfold toD at e; cases e
  | succ n =>
    unfold toD at e
    split at e
    · rename_i ys e1; cases e; exact ⟨n, ys, rfl, e1, rfl⟩
    · cases e
theorem toD_int {m : Nat} {h : Hea} {i : Int} {p : PyData} (e : toD m h (.int i) = some p) : p = .int i := by unfold toD at e; cases m <;> (cases e; rfl)
theorem toD_non {m : Nat} {h : Hea} {p : PyData} (e : toD m h .non = some p) : p = .none := by unfold toD at e; cases m <;> (cases e; rfl)
theorem toD_strV {m : Nat} {h : Hea} {x : Str} {p : PyData} (e : toD m h (.str x) = some p) : p = .str x := by unfold toD at e; cases m <;> (cases e; rfl)
theorem eqv_iff (h : Hea) : ∀ (n m : Nat) (d d' : Val), noB n d = true → noB n d' = true → ∀ p q, toD m h d = some p → toD m h d' = some q → (PyData.eqv p q = true ↔ d = d') := by
  intro n
  induction n with
  | zero =>
    intro m d d' hd hd' p q e1 e2
    cases d <;> (first | (cases hd; done) | skip) <;> cases d' <;> (first | (cases hd'; done) | skip)
    all_goals (first | rw [toD_int e1] | rw [toD_non e1] | rw [toD_strV e1]) <;> (first | rw [toD_int e2] | rw [toD_non e2] | rw [toD_strV e2]) <;> simp [PyData.eqv]
  | succ n ih =>
    intro m d d' hd hd' p q e1 e2
    cases d <;> (first | (cases hd; done) | skip) <;> cases d' <;> (first | (cases hd'; done) | skip)
    case tup.tup xs ys =>
      obtain ⟨m1, ps, hm, a1, rfl⟩ := toD_inv_tup e1
      obtain ⟨m2, qs, hm2, a2, rfl⟩ := toD_inv_tup e2
      have : m1 = m2 := by omega
      subst this
      unfold PyData.eqv
      rw [eqvAll_iff (P := fun x => noB n x = true) (fun x hx y hy p q e1 e2 => ih m1 x y hx hy p q e1 e2) (fun x hx => List.all_eq_true.mp hd x hx) (fun x hx => List.all_eq_true.mp hd' x hx) a1 a2]
      simp
    case lst.lst xs ys =>
      obtain ⟨m1, ps, hm, a1, rfl⟩ := toD_inv_lst e1
      obtain ⟨m2, qs, hm2, a2, rfl⟩ := toD_inv_lst e2
      have : m1 = m2 := by omega
      subst this
      unfold PyData.eqv
      rw [eqvAll_iff (P := fun x => noB n x = true) (fun x hx y hy p q e1 e2 => ih m1 x y hx hy p q e1 e2) (fun x hx => List.all_eq_true.mp hd x hx) (fun x hx => List.all_eq_true.mp hd' x hx) a1 a2]
      simp
    all_goals (first | rw [toD_int e1] | rw [toD_non e1] | rw [toD_strV e1] | (obtain ⟨_, _, _, _, rfl⟩ := toD_inv_tup e1) | (obtain ⟨_, _, _, _, rfl⟩ := toD_inv_lst e1)) <;> (first | rw [toD_int e2] | rw [toD_non e2] | rw [toD_strV e2] | (obtain ⟨_, _, _, _, rfl⟩ := toD_inv_tup e2) | (obtain ⟨_, _, _, _, rfl⟩ := toD_inv_lst e2)) <;> simp [PyData.eqv]
theorem shaped_of {p : PyData} {n : Nat} (h1 : p.canLay0 = true) (h2 : p.depth ≤ n + 1) (hn : n ≤ 60) : SeqAt.shaped p = true := by
  unfold SeqAt.shaped
  rw [h1, decide_eq_true (by omega)]
  rfl
/-- plain data are compared as data -/
theorem eqB_data (h : Hea) (n : Nat) (hn : n ≤ 60) {d d' : Val} (hd : noB n d = true) (hd' : noB n d' = true) : ∃ c : Bool, eqB h d d' = some c ∧ (c = true ↔ d = d') := by
  obtain ⟨p, e1, c1, l1⟩ := toD_spec h n 60 d hn hd
  obtain ⟨q, e2, c2, l2⟩ := toD_spec h n 60 d' hn hd'
  refine ⟨PyData.eqv p q, ?_, eqv_iff h n 60 d d' hd hd' p q e1 e2⟩
  unfold eqB
  rw [e1, e2]
  dsimp only
  rw [if_pos ⟨shaped_of c1 l1 hn, shaped_of c2 l2 hn⟩]
theorem ne_eq (h : Hea) (n : Nat) {d : Val} (hd : noB n d = true) (hn : n ≤ 60 := by decide) : oNe h d d = some (.bl false) := by
  obtain ⟨c, e, w⟩ := eqB_data h n hn hd hd
  rw [op_ne, e, w.mpr rfl]; rfl
end Lad
end
section
set_option maxRecDepth 10000
set_option maxHeartbeats 1000000
namespace Lad
open PySem L2
end Lad
end
section
set_option maxRecDepth 10000
set_option maxHeartbeats 1000000
namespace Lad
open PySem L2
theorem undL_all {n : Nat} : ∀ {xs : List Val}, (∀ x ∈ xs, x.und n = true) → undL n xs = true
  | [], _ => by unfold undL; rfl
  | x :: xs, w => by unfold undL; rw [w x List.mem_cons_self, undL_all fun z hz => w z (List.mem_cons_of_mem _ hz)]; rfl
theorem und_noB (n : Nat) : ∀ (k : Nat) (d : Val), noB k d = true → d.und n = true
  | _, .non, _ => by unfold Val.und; rfl
  | _, .int _, _ => by unfold Val.und; rfl
  | _, .str _, _ => by unfold Val.und; rfl
  | k + 1, .tup xs, e => by unfold Val.und; exact undL_all fun x hx => und_noB n k x (List.all_eq_true.mp e x hx)
  | k + 1, .lst xs, e => by unfold Val.und; exact undL_all fun x hx => und_noB n k x (List.all_eq_true.mp e x hx)
  | 0, .tup _, e => by cases e
  | 0, .lst _, e => by cases e
  | 0, .bl _, e => by cases e
  | 0, .dic _ _ _, e => by cases e
  | 0, .obj _ _ _, e => by cases e
  | 0, .ref _, e => by cases e
  | 0, .exn _ _, e => by cases e
  | 0, .err _ _, e => by cases e
  | _ + 1, .bl _, e => by cases e
  | _ + 1, .dic _ _ _, e => by cases e
  | _ + 1, .obj _ _ _, e => by cases e
  | _ + 1, .ref _, e => by cases e
  | _ + 1, .exn _ _, e => by cases e
  | _ + 1, .err _ _, e => by cases e
def Clean (h : Hea) : Prop := ∀ o ∈ h, ∀ n, o.und n = true
theorem Clean.lst {h : Hea} (c : Clean h) {xs : List Val} (k : Nat) (w : xs.all (noB k) = true) : Clean (h ++ [.lst xs]) := by
  intro o ho n
  rcases List.mem_append.mp ho with ho | ho
  · exact c o ho n
  · simp only [List.mem_cons, List.not_mem_nil, or_false] at ho
    rw [ho]
    show undL n xs = true
    exact undL_all fun x hx => und_noB n k x (List.all_eq_true.mp w x hx)
end Lad
end
section
set_option maxRecDepth 100000
set_option maxHeartbeats 4000000
namespace K22
open PySem L2 Lad
theorem q_pool : c__law_pool = Drw.c_poolA := rfl
theorem q_draw : c__law_draw = Drw.c__law_draw := rfl
def Same (v : Val) : Prop := ∀ h, oNe h v v = some (.bl false)
theorem ge {c i : Nat} {v : Val} {e : En} {h : Hea} (g : eVar i e h = .ok v h) (s : Same v) : eBin oNe (eUn (oErF c) (eErr c (aCons (eVar i) aNil))) (eVar i) e h = .ok (.bl false) h := by
  have a : aCons (eVar i) aNil e h = .ok [v] h := acons_ok g rfl
  have b : eErr c (aCons (eVar i) aNil) e h = .ok (.err c v) h := by unfold eErr; rw [a]; rfl
  have d : eUn (oErF c) (eErr c (aCons (eVar i) aNil)) e h = .ok v h := by
    show (eErr c (aCons (eVar i) aNil) e h).bind _ = _
    rw [b]
    show opt (oErF c h (.err c v)) h = _
    show opt (if c = c then some v else none) h = _
    rw [if_pos rfl]
    rfl
  exact bin_ok d g (s h)
section
variable {v : Val} {h : Hea} (s : Same v)
include s
theorem kept_ok : c__law_kept_too [v] h = .ok (.bl true) h := by
  refine (run_rt (fn := fin) (d := .bl true) (h' := h) rfl ?_).trans (fin_same _ _)
  unfold b__law_kept_too
  have g : eVar 0 (startE 1 [v]) h = .ok v h := rfl
  repeat (first | refine seq_if_no (or_no (ge g s) (ge g s)) ?_ | refine seq_if_no (ge g s) ?_)
  exact ret_ok rfl
theorem one_ok (a b c : Option Val) : l_law_0 [a, b, c, some v] h = .nx [a, b, c, some v] h := by
  unfold l_law_0
  have g : eVar 3 [a, b, c, some v] h = .ok v h := rfl
  repeat (first | refine seq_if_no (or_no (ge g s) (ge g s)) ?_ | refine seq_if_no (ge g s) ?_)
  refine seq_if_no (not_ok (b := true) (call_eq (ds := [v]) (h1 := h) (acons_ok g rfl) (kept_ok s))) ?_
  exact if_no (or_no (ge g s) (ge g s))
end
theorem same_int (z : Int) : Same (.int z) := fun h => by
  show some (Val.bl (!(decide (z = z)))) = _
  simp
theorem kinds_ok (ns : List Int) (a b : Int) : c__law_kinds_right [] (Hp2 ns a b []) = .ok (.bl true) (Hp2 ns a b []) := by kernel_rfl
theorem call0 {cf : List Val → Hea → Res Val} {e : En} {h : Hea} {r : Res Val} (q : cf [] h = r) : eCall0 cf e h = r := q
theorem body (ns : List Int) (k : Nat) (hk : k < 64) : ∃ e2 h2, l_law_1 [some (.ref 0), some (.int k), none, none] [.fro ns] = .nx e2 h2 ∧ gcN [1, 2, 3] 1 e2 h2 = ([some (.ref 0), none, none, none], [.fro ns]) := by
  obtain ⟨a0, b0, P0, e0⟩ := Drw.poolA_ok ns k hk
  obtain ⟨r, a1, b1, r0, r4, P1, ed⟩ := Drw.draw_ok ns [] P0 (m := 1000000000000000000000000000000) (by decide) (log2_lt (k := 9000) (Nat.lt_of_lt_of_le (by decide : _ < 2 ^ 100) (Nat.pow_le_pow_right (by decide) (by decide))) (by decide))
  have s1 : eCall c__law_pool (aCons (eVar 0) (aCons (eVar 1) aNil)) [some (.ref 0), some (.int k), none, none] [.fro ns] = .ok (.ref 1) (Hp2 ns a0 b0 []) := call_eq (ds := [.ref 0, .int k]) (h1 := [.fro ns]) rfl (by rw [q_pool]; exact e0)
  have s2 : iTmp (lDisp (aCons (eC .non) (aCons (eC (.int 7)) (aCons (eC (.str "word")) (aCons (eTup aNil) (aCons (eLst (lDisp (aCons (eC (.int 1)) aNil))) (aCons (eCall c__law_draw (aCons (eVar 2) (aCons (eBin oPow (eC (.int 10)) (eC (.int 30))) aNil))) aNil))))))) [some (.ref 0), some (.int k), some (.ref 1), none] (Hp2 ns a0 b0 []) = .ok (srcFix [.non, .int 7, .str "word", .tup [], .lst [.int 1], .int r]) (Hp2 ns a1 b1 []) := by
    refine tmp_ok (disp_ok ?_ (show 6 ≤ 16777216 by decide))
    refine acons_ok (h1 := Hp2 ns a0 b0 []) rfl (acons_ok (h1 := Hp2 ns a0 b0 []) rfl (acons_ok (h1 := Hp2 ns a0 b0 []) rfl (acons_ok (h1 := Hp2 ns a0 b0 []) rfl (acons_ok (h1 := Hp2 ns a0 b0 []) rfl (acons_ok (h1 := Hp2 ns a1 b1 []) ?_ rfl)))))
    exact call_eq (ds := [.ref 1, .int 1000000000000000000000000000000]) (h1 := Hp2 ns a0 b0 []) rfl (by rw [q_draw]; exact ed)
  have s3 : sForK [3] (iTmp (lDisp (aCons (eC .non) (aCons (eC (.int 7)) (aCons (eC (.str "word")) (aCons (eTup aNil) (aCons (eLst (lDisp (aCons (eC (.int 1)) aNil))) (aCons (eCall c__law_draw (aCons (eVar 2) (aCons (eBin oPow (eC (.int 10)) (eC (.int 30))) aNil))) aNil)))))))) (gN 3) l_law_0 [some (.ref 0), some (.int k), some (.ref 1), none] (Hp2 ns a0 b0 []) = .nx [some (.ref 0), some (.int k), some (.ref 1), none] (Hp2 ns a1 b1 []) := by
    rw [forK_eq s2]
    refine forKL_const fun v hv => ⟨[some (.ref 0), some (.int k), some (.ref 1), some v], [some (.ref 0), some (.int k), some (.ref 1), some v], Hp2 ns a1 b1 [], rfl, one_ok ?_ _ _ _, ?_⟩
    · simp only [List.mem_cons, List.not_mem_nil, or_false] at hv
      rcases hv with rfl | rfl | rfl | rfl | rfl | rfl
      · exact fun _ => rfl
      · exact same_int _
      · exact fun _ => by kernel_rfl
      · exact fun _ => rfl
      · exact fun _ => by kernel_rfl
      · exact same_int _
    · rfl
  refine ⟨[some (.ref 0), some (.int k), some (.ref 1), none], Hp2 ns a1 b1 [], ?_, rfl⟩
  unfold l_law_1
  refine seq_set s1 (seq_nx s3 ?_)
  exact if_no (not_ok (b := true) (call0 (kinds_ok ns a1 b1)))
theorem plain : Plain := by
  intro ns hl
  refine ⟨[.fro ns], (run_rt (fn := fin) (d := .bl true) (h' := [.fro ns]) rfl ?_).trans (fin_same _ _)⟩
  unfold b_law
  refine seq_nx (e1 := startE 4 [.ref 0]) (h1 := [.fro ns]) ?_ rfl
  refine cell_loop ns 2 (by decide) (by decide) rfl fun k hk => ?_
  obtain ⟨e, h, eb, el⟩ := body ns k (by omega)
  exact ⟨[some (.ref 0), some (.int k), none, none], e, h, rfl, eb, el⟩
end K22
end
theorem PySem.Challenge.cw_liftedladders_k22_errors_holds : PySem.Challenge.rw_liftedladders_k22_errors.Holds :=
  K22.holds_of K22.plain
