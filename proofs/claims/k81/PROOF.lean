import PyProof.Rows.All
import Wide.All
import Wide.FinOn
import HandS.TupAny
import HandS.TupMul
import HandS.Iter
import KE.GoesEnum
import KE.GoesZip
import KE.GoesMore
import HandS.ForMost
import HandS.ForExc
import HandS.Wide
import HandS.Style
import HandS.Flow
import HandS.Deep
import HandS.TupLe
import HandS.IsInst
import HandS.Star
import HandS.Dict
import KE.KDictKeyed
import KE.KeyNested
import HandS.RaiseMore
import HandS.WordsExc
import KE.KExcSuper
import PyProof.ExcBaseAll.LookupError
import HandS.ExcField
import HandS.ExcIs
import KE.KExcIs
import HandS.Zip
import HandS.List
import KE.KCallOwn
import HandS.HeadHook2
import HandS.SlotsOwn
import HandS.Head0
import HandS.Head1
import HandS.Head2
import HandS.HeadEnd
import HandS.Strs
import HandS.MakeKwOnly
import HandS.TryMany
import HandS.Conv
import HandS.SetBool
import HandS.GenList
import KE.KDictZip
import HandS.NoneIn
import KE.KRevSl
import HandS.DictComp
import KE.KDictCopyH
import KE.KDictDisplayH
import PyProof.ReprRoads
import HandS.SortInts
import HandS.Text
import PyProof.Rows.SortStr
import PySem.Challenge.RW_liftedladders_k81_books_alike_refused
set_option Elab.async false
set_option linter.all false
section
set_option maxRecDepth 100000
set_option maxHeartbeats 2000000
namespace L2
open PySem PySem.Spec PyProof.Rows
/-- a new tuple's object -/
abbrev tuO (us : List Value) : Obj := { cls := .type "tuple", data := .seq us.toArray }
section
variable {X : Cx} {pins : List (Addr × Obj)} {σ : St} {H : Hp} {s : Shared} {ys : List V} {us : List Value}
theorem Inv.newTup {tk : Nat} (J : Inv X pins σ H s) (r : Vals ys us) (z : ys.length ≤ sizeLine) : Inv X pins σ (upd H s.heap.objs.size (.frz (tuO us) (.tup ys))) { s with heap := s.heap.push (tuO us), toks := tk } :=
  J.laid (fun c o w => Heap.get?_push_of_some _ w) (Nat.le_refl _) ⟨Heap.get?_push_size _ rfl, z, us, r, IsTup.new _ _⟩
theorem Inv.free0 (J : Inv X pins σ H s) : H s.heap.objs.size = none := J.hok.fresh (Nat.le_refl _)
end
/-- what is wanted of a new tuple -/
def NewT (H : Hp) (ys : List V) (Q : VK) : Prop := ∀ (p : Addr) (ob : Obj), H p = none → ob.dict = none → Q (.ref p) (upd H p (.frz ob (.tup ys)))
section
variable {X : Cx} {es : List Expr} {t : TA} {pos : Pos}
def tTupS (t : TA) : TE := fun σ H Q => t σ H fun ys H1 => ys.length ≤ sizeLine ∧ NewT H1 ys Q
theorem pe_tupS {x1} (a : PA X es t) : PE X (.Tuple es x1 pos) (tTupS t) := ⟨fun pins s σ H Q J w => by
  refine wpAny_Tuple_spliced (thn (a.run pos pins s σ H _ J w) fun us s1 z => ?_)
  obtain ⟨ys, H1, J1, r, l, q⟩ := z
  exact ⟨by rw [← r.length]; exact l, .ref s1.heap.objs.size, _, J1.newTup r l, rfl, q _ _ J1.free0 rfl⟩⟩
theorem call_tupleS : CallR X (.type "tuple") (fun zs H Q => ∃ p ys, zs = [.ref p] ∧ ((SqL X.K H p ys ∧ NewT H ys Q) ∨ (SqT X.K H p ys ∧ Q (.ref p) H))) := by
  rintro pins s σ H zs us Q J r ⟨p, ys, rfl, w⟩
  obtain ⟨u, rfl, e⟩ := vals1 r
  cases e
  rcases w with ⟨sq, q⟩ | ⟨sq, q⟩
  · obtain ⟨its, v, pl, z⟩ := J.list sq
    have n := v.length
    refine call_tuple_list pl.isList (fun g kp => ?_) (by rw [List.size_toArray]; omega)
    have J1 : Inv X pins σ H { s with heap := g } := J.kept (t' := s.toks) kp
    exact ⟨.ref g.objs.size, _, J1.newTup (tk := s.toks) v z, rfl, q _ _ J1.free0 rfl⟩
  · obtain ⟨its, v, pl, z⟩ := J.tuple sq
    exact call_tuple_same pl ⟨.ref p, H, J, rfl, q⟩
def rSlZ (K : PySem.W.Frag) : V → Option Int → Option Int → Hp → VK → Prop := fun x lo hi H Q => ∃ a ys, x = .ref a ∧ SqT K H a ys ∧
  ((HT.sIx ys.length 0 lo = 0 ∧ HT.sIx ys.length ys.length hi = ys.length) → Q (.ref a) H) ∧ (¬ (HT.sIx ys.length 0 lo = 0 ∧ HT.sIx ys.length ys.length hi = ys.length) → NewT H (cutV ys lo hi) Q)
theorem sl_tupS : SlR X (rSlZ X.K) := by
  rintro pins s σ H x v vl vu lo hi sl Q J e hs pl pu ⟨a, ys, rfl, sq, q1, q2⟩
  cases e
  obtain ⟨its, r, ht, z⟩ := J.tuple sq
  have n : its.toArray.size = ys.length := by rw [List.size_toArray, ← r.length]
  refine ⟨"tuple", _, PyProof.Rows.slot_tuple_getitem.lookup, ht.typeIs, ?_⟩
  by_cases w : HT.sIx ys.length 0 lo = 0 ∧ HT.sIx ys.length ys.length hi = ys.length
  · exact getItem_tuple_whole ht hs pl pu (n ▸ w) ⟨.ref a, H, J, rfl, q1 w⟩
  · refine HT.getItem_tuple_cut ht hs pl pu (n ▸ w) ?_ (n ▸ z)
    rw [n]
    have r' : Vals (cutV ys lo hi) _ := (r.drop (HT.sIx ys.length 0 lo)).take (HT.sIx ys.length ys.length hi - HT.sIx ys.length 0 lo)
    exact ⟨.ref s.heap.objs.size, _, J.newTup (tk := s.toks) r' (Nat.le_trans (cutV_length ys lo hi) z), rfl, q2 w _ _ J.free0 rfl⟩
def rCatS (K : PySem.W.Frag) : R2 := fun x y H Q => ∃ a b ps qs, x = .ref a ∧ y = .ref b ∧ SqT K H a ps ∧ SqT K H b qs ∧ ps.length + qs.length ≤ sizeLine ∧
  (ps = [] → Q (.ref b) H) ∧ (ps ≠ [] → qs = [] → Q (.ref a) H) ∧ (ps ≠ [] → qs ≠ [] → NewT H (ps ++ qs) Q)
theorem op_catS : OpR X (binaryOp .Add) (rCatS X.K) := by
  rintro pins s σ H x y v u Q J e1 e2 ⟨a, b, ps, qs, rfl, rfl, sa, sb, z, q0, q1, q2⟩
  cases e1
  cases e2
  obtain ⟨us, r1, p1, _⟩ := J.tuple sa
  obtain ⟨ws, r2, p2, _⟩ := J.tuple sb
  by_cases n1 : ps = []
  · subst n1
    cases r1
    exact cat_tup0 p1 p2 ⟨.ref b, H, J, rfl, q0 rfl⟩
  · refine HT.cat_tup p1 p2 (fun w => n1 (r1.nil_iff.mp w)) (fun w => ⟨.ref a, H, J, rfl, q1 n1 (r2.nil_iff.mp w)⟩) (fun w => ?_) (by rw [← r1.length, ← r2.length]; exact z)
    exact ⟨.ref s.heap.objs.size, _, J.newTup (tk := s.toks) (r1.append r2) (by rw [List.length_append]; exact z), rfl, q2 n1 (fun k => w (r2.nil_iff.mpr k)) _ _ J.free0 rfl⟩
end
end L2
end
section
set_option maxRecDepth 100000
set_option maxHeartbeats 1000000
namespace Lad
open PySem L2
/-- lst, dic, obj: a list, a dict, an instance that nothing changes any more; ref: one of the evaluator's heap -/
inductive Val where
  | non | bl (b : Bool) | int (i : Int) | str (s : Str) | tup (xs : List Val) | lst (xs : List Val) | dic (t : Bool) (ks vs : List Val) | obj (c : Nat) (ns : List Nat) (vs : List Val) | ref (i : Nat) | exn (c : Nat) (d : Val)
inductive Ob where
  | lst (xs : List Val) | fro (ns : List Int) | dcK (kvs : List (Val × Val)) | dcT (kvs : List (Val × Val)) | ins (c : Nat) (fs : List (Nat × Val)) | dcL (kvs : List (Val × Val)) | dcM (kvs : List (Val × Val))
abbrev Hea := List Ob
abbrev En := List (Option Val)
inductive Res (α : Type) where
  | ok (a : α) (h : Hea) | exc (c : Nat) (d : Val) (h : Hea) | stuck
def Res.bind {α β : Type} (r : Res α) (k : α → Hea → Res β) : Res β := match r with
  | .ok a h => k a h
  | .exc c d h => .exc c d h
  | .stuck => .stuck
/-- the end of a statement -/
inductive SRes where
  | nx (e : En) (h : Hea) | rt (v : Val) (h : Hea) | bk (e : En) (h : Hea) | ct (e : En) (h : Hea) | exc (c : Nat) (d : Val) (e : En) (h : Hea) | stuck
/-- what the program's top has made: the written part, the classes' addresses, the names of attributes, the field of an exception class -/
structure Sy where
  K : PySem.W.Frag
  ca : Nat → Addr
  nm : Nat → Str
  fld : Nat → Str
  /-- the program, the world (for the hashes of keys) -/
  P : Program
  w : World
  /-- the error that is handled: where it is, its class, its dict -/
  ex : Option (Addr × Nat × Addr)
/-- what the evaluator's heap holds: by numbers; hidden (being made) -/
structure Own where
  nm : List Addr
  hd : List Addr
def Own.add (ρ : Own) (p : Addr) : Own := ⟨ρ.nm ++ [p], ρ.hd⟩
def Own.hide (ρ : Own) (p : Addr) : Own := ⟨ρ.nm, p :: ρ.hd⟩
def Off (ρ : Own) (a : Addr) : Prop := ∀ i : Nat, ρ.nm[i]? ≠ some a
/-- neither held nor being made -/
def Fz (ρ : Own) (a : Addr) : Prop := Off ρ a ∧ a ∉ ρ.hd
def keyVal : Key → Val
  | .inl i => .int i
  | .inr s => .str s
abbrev kvK : Key → Val := keyVal
/-- a key that is a tuple: as deep as n -/
def nkAll (f : Val → Option NestedKey) : List Val → Option (List NestedKey)
  | [] => some []
  | d :: ds => match f d, nkAll f ds with
    | some k, some ks => some (k :: ks)
    | _, _ => none
def nkF : Nat → Val → Option NestedKey
  | n + 1, .tup xs => (nkAll (nkF n) xs).map .tup
  | _, .int i => some (.num i)
  | _, .bl b => some (.num (if b = true then 1 else 0))
  | _, .str x => some (.text x)
  | _, .non => some .none
  | _, _ => none
def toNK : Val → Option NestedKey
  | .tup xs => nkF 8 (.tup xs)
  | _ => none
/-- a dict whose keys are tuples: the keys, where their tuples stand, the values -/
def dnO (P : Program) (w : World) (a : Addr) (ps : List (NestedKey × Addr × V)) : HO := .ext fun h => ps.length ≤ sizeLine ∧ (a == sysModules) = false ∧
  ∃ xs : List (NestedKey × Addr × Value), Paired (fun (p : NestedKey × Addr × V) (q : NestedKey × Addr × Value) => p.1 = q.1 ∧ p.2.1 = q.2.1 ∧ RelV p.2.2 q.2.2) ps xs ∧
    ∃ o es ep, h.get? a = some o ∧ o.ExactDict ∧ o.data = .dict es ep ∧ es.toList = xs.map (entryOfKey (nestedKind P w)) ∧ (xs.map (·.1)).Nodup
/-- a dict -/
def IsDi (o : HO) : Prop := (∃ ps, o = .dK ps) ∨ ∃ P w a ps, o = dnO P w a ps
/-- sealed, or as it was -/
def Sl (o o' : HO) : Prop := o' = o ∨ (IsDi o ∧ ∃ ob, o' = .frz ob o)
theorem Sl.rfl {o : HO} : Sl o o := .inl (Eq.refl _)
theorem isDi_frz {o : HO} {ob : Obj} : ¬ IsDi (.frz ob o) := fun h => by
  rcases h with ⟨_, e⟩ | ⟨_, _, _, _, e⟩
  · cases e
  · unfold dnO at e; cases e
theorem Sl.trans {a b c : HO} (h : Sl a b) (k : Sl b c) : Sl a c := by
  rcases h with rfl | ⟨i, ob, rfl⟩
  · exact k
  · rcases k with rfl | ⟨j, _⟩
    · exact .inr ⟨i, ob, Eq.refl _⟩
    · exact (isDi_frz j).elim
theorem Sl.lst {xs : List V} {o : HO} (h : Sl (.lst xs) o) : o = .lst xs := by
  rcases h with h | ⟨⟨_, e⟩ | ⟨_, _, _, _, e⟩, _⟩
  · exact h
  · cases e
  · unfold dnO at e; cases e
theorem Sl.ins {C dx : Addr} {fs : List (Str × V)} {o : HO} (h : Sl (.ins C dx fs) o) : o = .ins C dx fs := by
  rcases h with h | ⟨⟨_, e⟩ | ⟨_, _, _, _, e⟩, _⟩
  · exact h
  · cases e
  · unfold dnO at e; cases e
theorem Sl.rd {H H' : Hp} {a : Addr} {u : HO} (k : ∀ ob v, H a = some (.frz ob v) → H' a = some (.frz ob v)) (hu : IsDi u) (f : ∀ o, H a = some o → ∃ o', H' a = some o' ∧ Sl o o') (h : Rd H a u) : Rd H' a u := by
  rcases h with h | ⟨ob, h⟩
  · obtain ⟨o', e, s⟩ := f _ h
    rcases s with rfl | ⟨_, ob, rfl⟩
    · exact .inl e
    · exact .inr ⟨ob, e⟩
  · exact .inr ⟨ob, k _ _ h⟩
/-- a tuple whose object is known to have no dict -/
def StT (K : PySem.W.Frag) (H : Hp) (a : Addr) (vs : List V) : Prop := (∃ ob, H a = some (.frz ob (.tup vs)) ∧ ob.dict = none) ∨
  ∃ (o : PySem.Obj) (its : Array Value) (n : Nat), K.lookup a = some o ∧ o.cls = .type "tuple" ∧ o.dict = none ∧ o.data = .seq its n ∧ its.size ≤ sizeLine ∧ Vals vs its.toList
theorem StT.sq {K : PySem.W.Frag} {H : Hp} {a : Addr} {vs : List V} (h : StT K H a vs) : SqT K H a vs := by
  rcases h with ⟨ob, h, _⟩ | ⟨o, its, n, h1, h2, _, h3, h4, h5⟩
  · exact .inl (.inr ⟨ob, h⟩)
  · exact .inr ⟨o, its, n, h1, h2, h3, h4, h5⟩
mutual
inductive Rep (S : Sy) (ρ : Own) (H : Hp) : Val → V → Prop where
  | non : Rep S ρ H .non .non
  | bl (b : Bool) : Rep S ρ H (.bl b) (.bl b)
  | int (i : Int) : Rep S ρ H (.int i) (.int i)
  | str (s : Str) : Rep S ρ H (.str s) (.str s)
  | tup {a : Addr} {ds : List Val} {vs : List V} : StT S.K H a vs → Reps S ρ H ds vs → Rep S ρ H (.tup ds) (.ref a)
  | lst {a : Addr} {ds : List Val} {vs : List V} : Fz ρ a → H a = some (.lst vs) → Reps S ρ H ds vs → Rep S ρ H (.lst ds) (.ref a)
  | dicK {a : Addr} {ds : List Val} {ps : List (Key × V)} {ks : List Val} {vs : List V} : Fz ρ a → Rd H a (.dK ps) → ks = ps.map (fun p => kvK p.1) → vs = ps.map (·.2) → Reps S ρ H ds vs → Rep S ρ H (.dic false ks ds) (.ref a)
  | dicT {a : Addr} {ds : List Val} {ps : List (NestedKey × Addr × V)} {ks : List Val} {us vs : List V} : Fz ρ a → Rd H a (dnO S.P S.w a ps) → us = ps.map (fun p => V.ref p.2.1) → ks.map toNK = ps.map (fun p => some p.1) → Reps S ρ H ks us → vs = ps.map (·.2.2) → Reps S ρ H ds vs → Rep S ρ H (.dic true ks ds) (.ref a)
  | obj {a dx : Addr} {c : Nat} {ns : List Nat} {ds : List Val} {ps : List (Str × V)} {vs : List V} : Fz ρ a → H a = some (.ins (S.ca c) dx ps) → ps.map (·.1) = ns.map S.nm → vs = ps.map (·.2) → Reps S ρ H ds vs → Rep S ρ H (.obj c ns ds) (.ref a)
  | ref {i : Nat} {a : Addr} : ρ.nm[i]? = some a → Rep S ρ H (.ref i) (.ref a)
  | exn {c : Nat} {a dx : Addr} {d : Val} {v : V} : S.ex = some (a, c, dx) → H dx = some (.xd [(S.fld c, v)]) → Rep S ρ H d v → Rep S ρ H (.exn c d) (.ref a)
inductive Reps (S : Sy) (ρ : Own) (H : Hp) : List Val → List V → Prop where
  | nil : Reps S ρ H [] []
  | cons {d : Val} {v : V} {ds : List Val} {vs : List V} : Rep S ρ H d v → Reps S ρ H ds vs → Reps S ρ H (d :: ds) (v :: vs)
end
/-- tuples stay -/
def Kp (S : Sy) (H H' : Hp) : Prop := (∀ a xs, SqT S.K H a xs → SqT S.K H' a xs) ∧ (∀ a fs, H a = some (.xd fs) → H' a = some (.xd fs)) ∧ ∀ a ob u, H a = some (.frz ob u) → H' a = some (.frz ob u)
theorem Kp.rfl {S : Sy} {H : Hp} : Kp S H H := ⟨fun _ _ h => h, fun _ _ h => h, fun _ _ _ h => h⟩
theorem Kp.trans {S : Sy} {H H1 H2 : Hp} (a : Kp S H H1) (b : Kp S H1 H2) : Kp S H H2 := ⟨fun x xs h => b.1 x xs (a.1 x xs h), fun x xs h => b.2.1 x xs (a.2.1 x xs h), fun x ob u h => b.2.2 x ob u (a.2.2 x ob u h)⟩
theorem Kp.st {S : Sy} {H H' : Hp} (k : Kp S H H') {a : Addr} {vs : List V} (h : StT S.K H a vs) : StT S.K H' a vs := by
  rcases h with ⟨ob, h, z⟩ | h
  · exact .inl ⟨ob, k.2.2 a ob _ h, z⟩
  · exact .inr h
/-- ρ' goes on from ρ -/
def Sub (ρ ρ' : Own) : Prop := ∀ (i : Nat) (a : Addr), ρ.nm[i]? = some a → ρ'.nm[i]? = some a
theorem Sub.rfl {ρ : Own} : Sub ρ ρ := fun _ _ h => h
theorem Sub.trans {ρ ρ1 ρ2 : Own} (a : Sub ρ ρ1) (b : Sub ρ1 ρ2) : Sub ρ ρ2 := fun i x h => b i x (a i x h)
theorem Sub.app {ρ : Own} {p : Addr} : Sub ρ (ρ.add p) := fun i a h => by
  have hi := (List.getElem?_eq_some_iff.mp h).1
  show (ρ.nm ++ [p])[i]? = some a
  rw [List.getElem?_append_left hi]; exact h
/-- what stands for data goes on to do so -/
structure Mv (S : Sy) (ρ : Own) (H : Hp) (ρ' : Own) (H' : Hp) : Prop where
  sub : Sub ρ ρ'
  kp : Kp S H H'
  fz : ∀ a o, H a = some o → Fz ρ a → (∃ o', H' a = some o' ∧ Sl o o') ∧ Fz ρ' a
theorem Mv.rfl {S : Sy} {ρ : Own} {H : Hp} : Mv S ρ H ρ H := ⟨.rfl, .rfl, fun _ _ e f => ⟨⟨_, e, .rfl⟩, f⟩⟩
theorem Mv.trans {S : Sy} {ρ ρ1 ρ2 : Own} {H H1 H2 : Hp} (a : Mv S ρ H ρ1 H1) (b : Mv S ρ1 H1 ρ2 H2) : Mv S ρ H ρ2 H2 := ⟨a.sub.trans b.sub, a.kp.trans b.kp, fun x o e f => let ⟨⟨o1, e1, s1⟩, f1⟩ := a.fz x o e f; let ⟨⟨o2, e2, s2⟩, f2⟩ := b.fz x o1 e1 f1; ⟨⟨o2, e2, s1.trans s2⟩, f2⟩⟩
theorem Mv.lst {S : Sy} {ρ ρ' : Own} {H H' : Hp} (m : Mv S ρ H ρ' H') {a : Addr} {xs : List V} (f : Fz ρ a) (h : H a = some (.lst xs)) : H' a = some (.lst xs) := by
  obtain ⟨⟨o, e, s⟩, _⟩ := m.fz a _ h f
  rw [s.lst] at e; exact e
theorem Mv.ins {S : Sy} {ρ ρ' : Own} {H H' : Hp} (m : Mv S ρ H ρ' H') {a : Addr} {C dx : Addr} {fs : List (Str × V)} (f : Fz ρ a) (h : H a = some (.ins C dx fs)) : H' a = some (.ins C dx fs) := by
  obtain ⟨⟨o, e, s⟩, _⟩ := m.fz a _ h f
  rw [s.ins] at e; exact e
theorem Rd.mv {S : Sy} {ρ ρ' : Own} {H H' : Hp} (m : Mv S ρ H ρ' H') {a : Addr} {o : HO} (i : IsDi o) (f : Fz ρ a) (h : Rd H a o) : Rd H' a o := Sl.rd (m.kp.2.2 a) i (fun o e => (m.fz a o e f).1) h
theorem Rd.fz {S : Sy} {ρ ρ' : Own} {H H' : Hp} (m : Mv S ρ H ρ' H') {a : Addr} {o : HO} (f : Fz ρ a) (h : Rd H a o) : Fz ρ' a := by
  rcases h with h | ⟨u, h⟩
  · exact (m.fz a _ h f).2
  · exact (m.fz a _ h f).2
theorem isDi_K {ps : List (Key × V)} : IsDi (.dK ps) := .inl ⟨ps, rfl⟩
theorem isDi_N {P : Program} {w : World} {a : Addr} {ps : List (NestedKey × Addr × V)} : IsDi (dnO P w a ps) := .inr ⟨P, w, a, ps, rfl⟩
theorem Rd.there {H : Hp} {a : Addr} {o : HO} (h : Rd H a o) : ∃ u, H a = some u := by
  rcases h with h | ⟨u, h⟩ <;> exact ⟨_, h⟩
mutual
theorem Rep.mono {S : Sy} {ρ ρ' : Own} {H H' : Hp} (m : Mv S ρ H ρ' H') : ∀ {d : Val} {v : V}, Rep S ρ H d v → Rep S ρ' H' d v
  | _, _, .non => .non
  | _, _, .bl b => .bl b
  | _, _, .int i => .int i
  | _, _, .str z => .str z
  | _, _, .tup h r => .tup (m.kp.st h) (Reps.mono m r)
  | _, _, .lst f h r => .lst (m.fz _ _ h f).2 (m.lst f h) (Reps.mono m r)
  | _, _, .dicK f h e1 e2 r => .dicK (Rd.fz m f h) (Rd.mv m isDi_K f h) e1 e2 (Reps.mono m r)
  | _, _, .dicT f h e1 e2 r e3 q => .dicT (Rd.fz m f h) (Rd.mv m isDi_N f h) e1 e2 (Reps.mono m r) e3 (Reps.mono m q)
  | _, _, .obj f h e1 e2 r => .obj (m.fz _ _ h f).2 (m.ins f h) e1 e2 (Reps.mono m r)
  | _, _, .ref h => .ref (m.sub _ _ h)
  | _, _, .exn h1 h2 r => .exn h1 (m.kp.2.1 _ _ h2) (Rep.mono m r)
theorem Reps.mono {S : Sy} {ρ ρ' : Own} {H H' : Hp} (m : Mv S ρ H ρ' H') : ∀ {ds : List Val} {vs : List V}, Reps S ρ H ds vs → Reps S ρ' H' ds vs
  | _, _, .nil => .nil
  | _, _, .cons r t => .cons (Rep.mono m r) (Reps.mono m t)
end
theorem Reps.length {S : Sy} {ρ : Own} {H : Hp} : ∀ {ds : List Val} {vs : List V}, Reps S ρ H ds vs → ds.length = vs.length
  | _, _, .nil => rfl
  | _, _, .cons _ t => congrArg (· + 1) (Reps.length t)
theorem Reps.get {S : Sy} {ρ : Own} {H : Hp} : ∀ {ds : List Val} {vs : List V} {i : Nat} {d : Val}, Reps S ρ H ds vs → ds[i]? = some d → ∃ v, vs[i]? = some v ∧ Rep S ρ H d v
  | _, _, 0, _, .cons r _, e => by
    have e := Option.some.inj e
    subst e
    exact ⟨_, rfl, r⟩
  | _, _, i + 1, _, .cons _ t, e => Reps.get (i := i) t e
  | _, _, i, _, .nil, e => by simp at e
theorem Reps.app {S : Sy} {ρ : Own} {H : Hp} : ∀ {ds es : List Val} {vs us : List V}, Reps S ρ H ds vs → Reps S ρ H es us → Reps S ρ H (ds ++ es) (vs ++ us)
  | _, _, _, _, .nil, t => t
  | _, _, _, _, .cons r q, t => .cons r (Reps.app q t)
theorem Reps.one {S : Sy} {ρ : Own} {H : Hp} {d : Val} {v : V} (r : Rep S ρ H d v) : Reps S ρ H [d] [v] := .cons r .nil
theorem Reps.take {S : Sy} {ρ : Own} {H : Hp} : ∀ {ds : List Val} {vs : List V} (n : Nat), Reps S ρ H ds vs → Reps S ρ H (ds.take n) (vs.take n)
  | _, _, 0, _ => .nil
  | _, _, _ + 1, .nil => .nil
  | _, _, n + 1, .cons r t => .cons r (Reps.take n t)
theorem Reps.drop {S : Sy} {ρ : Own} {H : Hp} : ∀ {ds : List Val} {vs : List V} (n : Nat), Reps S ρ H ds vs → Reps S ρ H (ds.drop n) (vs.drop n)
  | _, _, 0, r => r
  | _, _, _ + 1, .nil => .nil
  | _, _, n + 1, .cons _ t => Reps.drop n t
theorem Reps.set {S : Sy} {ρ : Own} {H : Hp} {d : Val} {v : V} (r : Rep S ρ H d v) : ∀ {ds : List Val} {vs : List V} (n : Nat), Reps S ρ H ds vs → Reps S ρ H (ds.set n d) (vs.set n v)
  | _, _, _, .nil => .nil
  | _, _, 0, .cons _ t => .cons r t
  | _, _, n + 1, .cons q t => .cons q (Reps.set r n t)
theorem Reps.ints {S : Sy} {ρ : Own} {H : Hp} : ∀ {ns : List Int} {vs : List V}, Reps S ρ H (ns.map Val.int) vs → vs = ns.map V.int
  | [], _, .nil => rfl
  | n :: ns, _, .cons r t => by
    cases r
    rw [Reps.ints t]
    rfl
inductive KvR (S : Sy) (ρ : Own) (H : Hp) {κ : Type} (kd : κ → Val) : List (Val × Val) → List (κ × V) → Prop where
  | nil : KvR S ρ H kd [] []
  | cons {k : κ} {d : Val} {v : V} {ds : List (Val × Val)} {vs : List (κ × V)} : Rep S ρ H d v → KvR S ρ H kd ds vs → KvR S ρ H kd ((kd k, d) :: ds) ((k, v) :: vs)
theorem KvR.mono {S : Sy} {ρ ρ' : Own} {H H' : Hp} {κ : Type} {kd : κ → Val} (m : Mv S ρ H ρ' H') : ∀ {ds : List (Val × Val)} {vs : List (κ × V)}, KvR S ρ H kd ds vs → KvR S ρ' H' kd ds vs
  | _, _, .nil => .nil
  | _, _, .cons r t => .cons (r.mono m) (t.mono m)
inductive KvN (S : Sy) (ρ : Own) (H : Hp) : List (Val × Val) → List (NestedKey × Addr × V) → Prop where
  | nil : KvN S ρ H [] []
  | cons {k : NestedKey} {b : Addr} {kd d : Val} {v : V} {ds : List (Val × Val)} {vs : List (NestedKey × Addr × V)} : Rep S ρ H kd (.ref b) → toNK kd = some k → Rep S ρ H d v → KvN S ρ H ds vs → KvN S ρ H ((kd, d) :: ds) ((k, b, v) :: vs)
theorem KvN.mono {S : Sy} {ρ ρ' : Own} {H H' : Hp} (m : Mv S ρ H ρ' H') : ∀ {ds : List (Val × Val)} {vs : List (NestedKey × Addr × V)}, KvN S ρ H ds vs → KvN S ρ' H' ds vs
  | _, _, .nil => .nil
  | _, _, .cons r e q t => .cons (r.mono m) e (q.mono m) (t.mono m)
inductive FsR (S : Sy) (ρ : Own) (H : Hp) : List (Nat × Val) → List (Str × V) → Prop where
  | nil : FsR S ρ H [] []
  | cons {n : Nat} {d : Val} {v : V} {ds : List (Nat × Val)} {vs : List (Str × V)} : Rep S ρ H d v → FsR S ρ H ds vs → FsR S ρ H ((n, d) :: ds) ((S.nm n, v) :: vs)
theorem FsR.mono {S : Sy} {ρ ρ' : Own} {H H' : Hp} (m : Mv S ρ H ρ' H') : ∀ {ds : List (Nat × Val)} {vs : List (Str × V)}, FsR S ρ H ds vs → FsR S ρ' H' ds vs
  | _, _, .nil => .nil
  | _, _, .cons r t => .cons (r.mono m) (t.mono m)
theorem reps_ints {S : Sy} {ρ : Own} {H : Hp} : ∀ ns : List Int, Reps S ρ H (ns.map Val.int) (ns.map V.int)
  | [] => .nil
  | n :: ns => .cons (.int n) (reps_ints ns)
inductive ObR (S : Sy) (ρ : Own) (H : Hp) : Ob → Addr → Prop where
  | lst {xs : List Val} {vs : List V} {a : Addr} : H a = some (.lst vs) → Reps S ρ H xs vs → ObR S ρ H (.lst xs) a
  | fro {ns : List Int} {a : Addr} {o : PySem.Obj} : H a = some (.frz o (.lst (ns.map V.int))) → ObR S ρ H (.fro ns) a
  | dcK {kvs : List (Val × Val)} {vs : List (Key × V)} {a : Addr} : H a = some (.dK vs) → KvR S ρ H kvK kvs vs → ObR S ρ H (.dcK kvs) a
  | dcT {kvs : List (Val × Val)} {vs : List (NestedKey × Addr × V)} {a : Addr} : H a = some (dnO S.P S.w a vs) → KvN S ρ H kvs vs → ObR S ρ H (.dcT kvs) a
  | dcL {kvs : List (Val × Val)} {vs : List (Key × V)} {o : PySem.Obj} {a : Addr} : H a = some (.frz o (.dK vs)) → KvR S ρ H kvK kvs vs → ObR S ρ H (.dcL kvs) a
  | dcM {kvs : List (Val × Val)} {vs : List (NestedKey × Addr × V)} {o : PySem.Obj} {a : Addr} : H a = some (.frz o (dnO S.P S.w a vs)) → KvN S ρ H kvs vs → ObR S ρ H (.dcM kvs) a
  | ins {c : Nat} {fs : List (Nat × Val)} {vs : List (Str × V)} {a dx : Addr} : H a = some (.ins (S.ca c) dx vs) → FsR S ρ H fs vs → ObR S ρ H (.ins c fs) a
theorem ObR.there {S : Sy} {ρ : Own} {H : Hp} {o : Ob} {a : Addr} (r : ObR S ρ H o a) : ∃ u, H a = some u := by
  cases r <;> exact ⟨_, by assumption⟩
theorem ObR.mono {S : Sy} {ρ ρ' : Own} {H H' : Hp} (m : Mv S ρ H ρ' H') {o : Ob} {a : Addr} (e : H' a = H a) (r : ObR S ρ H o a) : ObR S ρ' H' o a := by
  cases r with
  | lst h q => exact .lst (e.trans h) (q.mono m)
  | fro h => exact .fro (e.trans h)
  | dcK h q => exact .dcK (e.trans h) (q.mono m)
  | dcT h q => exact .dcT (e.trans h) (q.mono m)
  | dcL h q => exact .dcL (e.trans h) (q.mono m)
  | dcM h q => exact .dcM (e.trans h) (q.mono m)
  | ins h q => exact .ins (e.trans h) (q.mono m)
/-- the heap is held -/
structure Rel (S : Sy) (ρ : Own) (h : Hea) (H : Hp) : Prop where
  len : h.length = ρ.nm.length
  inj : ∀ (i j : Nat) (a : Addr), ρ.nm[i]? = some a → ρ.nm[j]? = some a → i = j
  ob : ∀ (i : Nat) (o : Ob) (a : Addr), h[i]? = some o → ρ.nm[i]? = some a → ObR S ρ H o a
  hid : ∀ a, a ∈ ρ.hd → (∃ u, H a = some u) ∧ Off ρ a
theorem upd_some {H : Hp} {p a : Addr} {o u : HO} (e : H a = some u) : ∃ u, upd H p o a = some u := by
  unfold upd
  split
  · exact ⟨_, rfl⟩
  · exact ⟨_, e⟩
theorem Rel.at {S : Sy} {ρ : Own} {h : Hea} {H : Hp} (r : Rel S ρ h H) {i : Nat} {o : Ob} (e : h[i]? = some o) : ∃ a, ρ.nm[i]? = some a ∧ ObR S ρ H o a := by
  have hi := (List.getElem?_eq_some_iff.mp e).1
  rw [r.len] at hi
  exact ⟨_, List.getElem?_eq_getElem hi, r.ob i o _ e (List.getElem?_eq_getElem hi)⟩
theorem Kp.new {S : Sy} {H : Hp} {p : Addr} {o : HO} (n : H p = none) : Kp S H (upd H p o) := by
  refine ⟨fun a xs h => ?_, fun a fs h => by rw [upd_ne (ne_of_none h n)]; exact h, fun a ob u h => by rw [upd_ne (ne_of_none h n)]; exact h⟩
  rcases h with (h | ⟨u, h⟩) | h
  · exact .inl (.inl (by rw [upd_ne (ne_of_none h n)]; exact h))
  · exact .inl (.inr ⟨u, by rw [upd_ne (ne_of_none h n)]; exact h⟩)
  · exact .inr h
/-- what may be changed: no tuple, nothing locked, no error's dict -/
def Ch : HO → Prop
  | .tup _ => False
  | .frz _ _ => False
  | .xd _ => False
  | _ => True
theorem Kp.put {S : Sy} {H : Hp} {p : Addr} {o u : HO} (e : H p = some u) (h1 : Ch u) : Kp S H (upd H p o) := by
  refine ⟨fun a xs h => ?_, fun a fs h => by rw [upd_ne (ne_of h e (by rintro rfl; exact h1))]; exact h, fun a ob v h => by rw [upd_ne (ne_of h e (by rintro rfl; exact h1))]; exact h⟩
  rcases h with (h | ⟨w, h⟩) | h
  · exact .inl (.inl (by rw [upd_ne (ne_of h e (by rintro rfl; exact h1))]; exact h))
  · exact .inl (.inr ⟨w, by rw [upd_ne (ne_of h e (by rintro rfl; exact h1))]; exact h⟩)
  · exact .inr h
theorem add_some {ρ : Own} {p a : Addr} {i : Nat} (h : (ρ.add p).nm[i]? = some a) : ρ.nm[i]? = some a ∨ a = p := by
  have h : (ρ.nm ++ [p])[i]? = some a := h
  by_cases hi : i < ρ.nm.length
  · rw [List.getElem?_append_left hi] at h
    exact .inl h
  · rw [List.getElem?_append_right (Nat.le_of_not_lt hi)] at h
    have := List.mem_of_getElem? h
    simp at this
    exact .inr this
theorem Fz.add {ρ : Own} {p a : Addr} (f : Fz ρ a) (n : a ≠ p) : Fz (ρ.add p) a := ⟨fun i z => by
  rcases add_some z with z | z
  · exact f.1 i z
  · exact n z, f.2⟩
theorem Mv.side {S : Sy} {ρ : Own} {H : Hp} {p : Addr} {o : HO} (n : H p = none) : Mv S ρ H ρ (upd H p o) := ⟨.rfl, .new n, fun a u e f => ⟨⟨u, by rw [upd_ne (ne_of_none e n)]; exact e, .rfl⟩, f⟩⟩
theorem Mv.new {S : Sy} {ρ : Own} {H : Hp} {p : Addr} {o : HO} (n : H p = none) : Mv S ρ H (ρ.add p) (upd H p o) := ⟨.app, .new n, fun a u e f => ⟨⟨u, by rw [upd_ne (ne_of_none e n)]; exact e, .rfl⟩, f.add (ne_of_none e n)⟩⟩
theorem Mv.put {S : Sy} {ρ : Own} {H : Hp} {i : Nat} {a : Addr} {u o : HO} (ea : ρ.nm[i]? = some a) (e : H a = some u) (h1 : Ch u) : Mv S ρ H ρ (upd H a o) := ⟨.rfl, .put e h1, fun b w q f => ⟨⟨w, by
  have hb : b ≠ a := fun z => f.1 i (by rw [z]; exact ea)
  rw [upd_ne hb]; exact q, .rfl⟩, f⟩⟩
/-- a thing that is being made is changed -/
theorem Mv.hid {S : Sy} {ρ : Own} {H : Hp} {a : Addr} {u o : HO} (ea : a ∈ ρ.hd) (e : H a = some u) (h1 : Ch u) : Mv S ρ H ρ (upd H a o) := ⟨.rfl, .put e h1, fun b w q f => ⟨⟨w, by
  have hb : b ≠ a := fun z => f.2 (by rw [z]; exact ea)
  rw [upd_ne hb]; exact q, .rfl⟩, f⟩⟩
theorem Rel.free {S : Sy} {ρ : Own} {h : Hea} {H : Hp} (r : Rel S ρ h H) {p : Addr} (n : H p = none) {i : Nat} (e : ρ.nm[i]? = some p) : False := by
  have hi := (List.getElem?_eq_some_iff.mp e).1
  rw [← r.len] at hi
  obtain ⟨u, q⟩ := (r.ob i _ p (List.getElem?_eq_getElem hi) e).there
  rw [n] at q; cases q
/-- a new thing that is not in the heap of the evaluator -/
theorem Rel.side {S : Sy} {ρ : Own} {h : Hea} {H : Hp} (r : Rel S ρ h H) {p : Addr} {o : HO} (n : H p = none) : Rel S ρ h (upd H p o) :=
  ⟨r.len, r.inj, fun i ob a e1 e2 => (r.ob i ob a e1 e2).mono (.side n) (upd_ne fun z => r.free n (z ▸ e2)), fun a m => let ⟨⟨_, e⟩, z⟩ := r.hid a m; ⟨upd_some e, z⟩⟩
theorem Rel.fz {S : Sy} {ρ : Own} {h : Hea} {H : Hp} (r : Rel S ρ h H) {p : Addr} (n : H p = none) : Fz ρ p := ⟨fun _ z => r.free n z, fun m => by
  obtain ⟨⟨u, e⟩, _⟩ := r.hid p m
  rw [n] at e; cases e⟩
theorem add_at {ρ : Own} {p : Addr} : (ρ.add p).nm[ρ.nm.length]? = some p := by show (ρ.nm ++ [p])[ρ.nm.length]? = some p; simp
theorem Rel.grow {S : Sy} {ρ : Own} {h : Hea} {H' : Hp} (hl : h.length = ρ.nm.length) (inj : ∀ (i j : Nat) (a : Addr), ρ.nm[i]? = some a → ρ.nm[j]? = some a → i = j) {p : Addr} {ob : Ob} (n : Off ρ p)
    (os : ∀ (i : Nat) (o : Ob) (a : Addr), h[i]? = some o → ρ.nm[i]? = some a → ObR S (ρ.add p) H' o a) (q : ObR S (ρ.add p) H' ob p) (hi : ∀ a, a ∈ ρ.hd → (∃ u, H' a = some u) ∧ Off ρ a) (hp : p ∉ ρ.hd) : Rel S (ρ.add p) (h ++ [ob]) H' := by
  have one : ∀ (i : Nat) (a : Addr), (ρ.add p).nm[i]? = some a → (i < ρ.nm.length ∧ ρ.nm[i]? = some a) ∨ (i = ρ.nm.length ∧ a = p) := by
    intro i a e
    have e : (ρ.nm ++ [p])[i]? = some a := e
    by_cases h1 : i < ρ.nm.length
    · rw [List.getElem?_append_left h1] at e
      exact .inl ⟨h1, e⟩
    · rw [List.getElem?_append_right (Nat.le_of_not_lt h1)] at e
      have e3 := (List.getElem?_eq_some_iff.mp e).1
      have e4 := (List.mem_of_getElem? e)
      simp at e3 e4
      exact .inr ⟨by omega, e4⟩
  refine ⟨by simp [hl, Own.add], fun i j a e1 e2 => ?_, fun i o' a e1 e2 => ?_, fun a m => ⟨(hi a m).1, (Fz.add (ρ := ⟨ρ.nm, []⟩) (p := p) ⟨(hi a m).2, by simp⟩ fun z => hp (z ▸ m)).1⟩⟩
  · rcases one i a e1 with ⟨_, w1⟩ | ⟨z1, w1⟩
    · rcases one j a e2 with ⟨_, w2⟩ | ⟨z2, w2⟩
      · exact inj i j a w1 w2
      · exact (n i (w2 ▸ w1)).elim
    · rcases one j a e2 with ⟨_, w2⟩ | ⟨z2, w2⟩
      · exact (n j (w1 ▸ w2)).elim
      · omega
  · rcases one i a e2 with ⟨z, w2⟩ | ⟨z, w2⟩
    · rw [List.getElem?_append_left (by omega)] at e1
      exact os i o' a e1 w2
    · subst z w2
      rw [List.getElem?_append_right (by omega)] at e1
      have e4 := (List.mem_of_getElem? e1)
      simp at e4
      subst e4
      exact q
/-- a new object -/
theorem Rel.new {S : Sy} {ρ : Own} {h : Hea} {H : Hp} (r : Rel S ρ h H) {p : Addr} {o : HO} {ob : Ob} (n : H p = none) (q : ObR S (ρ.add p) (upd H p o) ob p) : Rel S (ρ.add p) (h ++ [ob]) (upd H p o) :=
  Rel.grow r.len r.inj (fun i z => r.free n z) (fun i o' a e1 e2 => (r.ob i o' a e1 e2).mono (.new n) (upd_ne fun z => r.free n (z ▸ e2))) q (fun a m => let ⟨⟨_, e⟩, z⟩ := r.hid a m; ⟨upd_some e, z⟩) (r.fz n).2
/-- an object changed -/
theorem Rel.put {S : Sy} {ρ : Own} {h : Hea} {H : Hp} (r : Rel S ρ h H) {i : Nat} {a : Addr} {u o : HO} {ob : Ob} (e : ρ.nm[i]? = some a) (hu : H a = some u) (h1 : Ch u)
    (q : ObR S ρ (upd H a o) ob a) : Rel S ρ (h.set i ob) (upd H a o) := by
  refine ⟨by simp [r.len], r.inj, fun j o' b e1 e2 => ?_, fun a m => let ⟨⟨_, e⟩, z⟩ := r.hid a m; ⟨upd_some e, z⟩⟩
  by_cases hj : i = j
  · subst hj
    have hi := (List.getElem?_eq_some_iff.mp e).1
    rw [← r.len] at hi
    rw [List.getElem?_set_self hi] at e1
    cases e1
    rw [e] at e2; cases e2
    exact q
  · rw [List.getElem?_set_ne hj] at e1
    have nb : b ≠ a := fun z => hj (r.inj i j a e (z ▸ e2))
    exact (r.ob j o' b e1 e2).mono (.put e hu h1) (upd_ne nb)
inductive ER (S : Sy) (ρ : Own) (H : Hp) : En → St → Prop where
  | nil : ER S ρ H [] []
  | cons {d : Option Val} {v : Option V} {ds : En} {vs : St} : (∀ x, d = some x → ∃ y, v = some y ∧ Rep S ρ H x y) → ER S ρ H ds vs → ER S ρ H (d :: ds) (v :: vs)
theorem ER.mono {S : Sy} {ρ ρ' : Own} {H H' : Hp} (m : Mv S ρ H ρ' H') : ∀ {ds : En} {vs : St}, ER S ρ H ds vs → ER S ρ' H' ds vs
  | _, _, .nil => .nil
  | _, _, .cons r t => .cons (fun x e => let ⟨y, e1, q⟩ := r x e; ⟨y, e1, q.mono m⟩) (t.mono m)
theorem ER.get {S : Sy} {ρ : Own} {H : Hp} : ∀ {ds : En} {vs : St} {i : Nat} {d : Val}, ER S ρ H ds vs → ds[i]? = some (some d) → ∃ v, vs[i]? = some (some v) ∧ Rep S ρ H d v
  | _, _, 0, _, .cons r _, e => by
    have e := Option.some.inj e
    obtain ⟨y, e1, q⟩ := r _ e
    subst e1
    exact ⟨_, rfl, q⟩
  | _, _, i + 1, _, .cons _ t, e => ER.get (i := i) t e
  | _, _, i, _, .nil, e => by simp at e
theorem ER.set {S : Sy} {ρ : Own} {H : Hp} {d : Val} {v : V} (r : Rep S ρ H d v) : ∀ {ds : En} {vs : St} (i : Nat), ER S ρ H ds vs → ER S ρ H (ds.set i (some d)) (vs.set i (some v))
  | _, _, _, .nil => .nil
  | _, _, 0, .cons _ t => .cons (fun x e => ⟨_, rfl, by cases e; exact r⟩) t
  | _, _, i + 1, .cons q t => .cons q (ER.set r i t)
theorem ER.gone {S : Sy} {ρ : Own} {H : Hp} {v : Option V} : ∀ {ds : En} {vs : St} (i : Nat), ER S ρ H ds vs → ER S ρ H (ds.set i none) (vs.set i v)
  | _, _, _, .nil => .nil
  | _, _, 0, .cons _ t => .cons (fun x e => nomatch e) t
  | _, _, i + 1, .cons q t => .cons q (ER.gone i t)
/-- forgetting on the evaluator's side alone -/
theorem ER.weak {S : Sy} {ρ : Own} {H : Hp} : ∀ {ds : En} {vs : St} (i : Nat), ER S ρ H ds vs → ER S ρ H (ds.set i none) vs
  | _, _, _, .nil => .nil
  | _, _, 0, .cons _ t => .cons (fun x e => nomatch e) t
  | _, _, i + 1, .cons q t => .cons q (ER.weak i t)
/-- from one place to a later one: what was named stays named, tuples stay, what the evaluator does not hold stays, what is newly held was not there -/
structure Go (S : Sy) (ρ : Own) (H : Hp) (ρ' : Own) (H' : Hp) : Prop where
  sub : Sub ρ ρ'
  kp : Kp S H H'
  fr : ∀ a o, H a = some o → Off ρ a → (∃ o', H' a = some o' ∧ Sl o o') ∧ (a ∈ ρ.hd → H' a = some o)
  nw : ∀ (i : Nat) (a : Addr), ρ'.nm[i]? = some a → (∃ j : Nat, ρ.nm[j]? = some a) ∨ H a = none
  hd : ρ'.hd = ρ.hd
theorem Go.rfl {S : Sy} {ρ : Own} {H : Hp} : Go S ρ H ρ H := ⟨.rfl, .rfl, fun _ _ h _ => ⟨⟨_, h, .rfl⟩, fun _ => h⟩, fun i _ h => .inl ⟨i, h⟩, Eq.refl _⟩
theorem Go.trans {S : Sy} {ρ ρ1 ρ2 : Own} {H H1 H2 : Hp} (a : Go S ρ H ρ1 H1) (b : Go S ρ1 H1 ρ2 H2) : Go S ρ H ρ2 H2 := by
  have off : ∀ x o, H x = some o → Off ρ x → Off ρ1 x := fun x o e n i q => by
    rcases a.nw i x q with ⟨j, z⟩ | z
    · exact n j z
    · rw [z] at e; cases e
  refine ⟨a.sub.trans b.sub, a.kp.trans b.kp, fun x o e n => ?_, fun i x q => ?_, b.hd.trans a.hd⟩
  · obtain ⟨⟨o1, e1, s1⟩, k1⟩ := a.fr x o e n
    obtain ⟨⟨o2, e2, s2⟩, k2⟩ := b.fr x o1 e1 (off x o e n)
    exact ⟨⟨o2, e2, s1.trans s2⟩, fun m => (b.fr x o (k1 m) (off x o e n)).2 (by rw [a.hd]; exact m)⟩
  · rcases b.nw i x q with ⟨j, z⟩ | z
    · exact a.nw j x z
    · cases e : H x with
      | none => exact .inr (Eq.refl _)
      | some o =>
        refine .inl (Classical.byContradiction fun n => ?_)
        obtain ⟨⟨o', this, _⟩, _⟩ := a.fr x o e fun j w => n ⟨j, w⟩
        rw [z] at this; cases this
/-- a new thing at p, not held -/
theorem Go.side {S : Sy} {ρ : Own} {H : Hp} {p : Addr} {o : HO} (n : H p = none) : Go S ρ H ρ (upd H p o) :=
  ⟨.rfl, .new n, fun a u e _ => have q : upd H p o a = some u := by rw [upd_ne (ne_of_none e n)]; exact e
    ⟨⟨u, q, .rfl⟩, fun _ => q⟩, fun i _ h => .inl ⟨i, h⟩, Eq.refl _⟩
/-- a new thing at p, held -/
theorem Go.new {S : Sy} {ρ : Own} {H : Hp} {p : Addr} {o : HO} (n : H p = none) : Go S ρ H (ρ.add p) (upd H p o) := by
  refine ⟨.app, .new n, fun a u e _ => have q : upd H p o a = some u := by rw [upd_ne (ne_of_none e n)]; exact e
    ⟨⟨u, q, .rfl⟩, fun _ => q⟩, fun i a h => ?_, Eq.refl _⟩
  rcases add_some h with h | h
  · exact .inl ⟨i, h⟩
  · subst h
    exact .inr n
/-- a thing that is held is changed -/
theorem Go.put {S : Sy} {ρ : Own} {H : Hp} {i : Nat} {a : Addr} {u o : HO} (ea : ρ.nm[i]? = some a) (e : H a = some u) (h1 : Ch u) : Go S ρ H ρ (upd H a o) :=
  ⟨.rfl, .put e h1, fun b w q n => by
    have hb : b ≠ a := fun z => n i (by rw [z]; exact ea)
    have q' : upd H a o b = some w := by rw [upd_ne hb]; exact q
    exact ⟨⟨w, q', .rfl⟩, fun _ => q'⟩, fun i _ h => .inl ⟨i, h⟩, Eq.refl _⟩
theorem Go.mv {S : Sy} {ρ ρ' : Own} {H H' : Hp} (g : Go S ρ H ρ' H') : Mv S ρ H ρ' H' := ⟨g.sub, g.kp, fun a o e f => ⟨(g.fr a o e f.1).1, (fun i z => by
  rcases g.nw i a z with ⟨j, q⟩ | q
  · exact f.1 j q
  · rw [q] at e; cases e), by rw [g.hd]; exact f.2⟩⟩
theorem Go.lst {S : Sy} {ρ ρ' : Own} {H H' : Hp} (g : Go S ρ H ρ' H') {a : Addr} {xs : List V} (h : H a = some (.lst xs)) (n : Off ρ a) : H' a = some (.lst xs) := by
  obtain ⟨⟨o, e, s⟩, _⟩ := g.fr a _ h n
  rw [s.lst] at e; exact e
section
variable (S : Sy)
def Aft (ρ : Own) (H : Hp) (r : Res Val) (Q : VK) (W : XK) : Prop := match r with
  | .ok d h' => ∀ ρ' v H', Go S ρ H ρ' H' → Rel S ρ' h' H' → Rep S ρ' H' d v → Q v H'
  | .exc c d h' => ∀ ρ' v H' dx, Go S ρ H ρ' H' → Rel S ρ' h' H' → Rep S ρ' H' d v → H' dx = some (.xd [(S.fld c, v)]) → W (.ref (S.ca c)) (some dx) H'
  | .stuck => False
def AftS (ρ : Own) (H : Hp) (r : SRes) (D : Ends) (W : WX) : Prop := match r with
  | .nx e h' => ∀ ρ' σ' H', Go S ρ H ρ' H' → Rel S ρ' h' H' → ER S ρ' H' e σ' → D.nx σ' H'
  | .rt d h' => ∀ ρ' v H', Go S ρ H ρ' H' → Rel S ρ' h' H' → Rep S ρ' H' d v → D.rt v H'
  | .bk e h' => ∀ ρ' σ' H', Go S ρ H ρ' H' → Rel S ρ' h' H' → ER S ρ' H' e σ' → D.bk σ' H'
  | .ct e h' => ∀ ρ' σ' H', Go S ρ H ρ' H' → Rel S ρ' h' H' → ER S ρ' H' e σ' → D.ct σ' H'
  | .exc c d e h' => ∀ ρ' v σ' H' dx, Go S ρ H ρ' H' → Rel S ρ' h' H' → Rep S ρ' H' d v → ER S ρ' H' e σ' → H' dx = some (.xd [(S.fld c, v)]) → W (.ref (S.ca c)) (some dx) σ' H'
  | .stuck => False
def tE (W : WX) (f : En → Hea → Res Val) : TE := fun σ H Q => ∃ ρ e h, Rel S ρ h H ∧ ER S ρ H e σ ∧ Aft S ρ H (f e h) Q (fun c d H' => W c d σ H')
def tS (W : WX) (f : En → Hea → SRes) : TS := fun D σ H => ∃ ρ e h, Rel S ρ h H ∧ ER S ρ H e σ ∧ AftS S ρ H (f e h) D W
end
section
variable {S : Sy}
theorem Aft.later {ρ ρ1 : Own} {H H1 : Hp} {r : Res Val} {Q : VK} {W : XK} (a : Aft S ρ H r Q W) (s : Go S ρ H ρ1 H1) : Aft S ρ1 H1 r Q W := by
  cases r with
  | ok d h' => exact fun ρ2 v H2 s2 => a ρ2 v H2 (s.trans s2)
  | exc c d h' => exact fun ρ2 v H2 dx s2 => a ρ2 v H2 dx (s.trans s2)
  | stuck => exact a
theorem Aft.bind {ρ : Own} {H : Hp} {r : Res Val} {k : Val → Hea → Res Val} {Q : VK} {W : XK} (a : Aft S ρ H (r.bind k) Q W) :
    Aft S ρ H r (fun v H1 => ∃ ρ1 d h1, Go S ρ H ρ1 H1 ∧ Rel S ρ1 h1 H1 ∧ Rep S ρ1 H1 d v ∧ Aft S ρ1 H1 (k d h1) Q W) W := by
  cases r with
  | ok d h => exact fun ρ1 v H1 s R r => ⟨ρ1, d, h, s, R, r, Aft.later (r := k d h) a s⟩
  | exc c d h => exact a
  | stuck => exact a
theorem Aft.mono {ρ : Own} {H : Hp} {r : Res Val} {Q Q' : VK} {W : XK} (a : Aft S ρ H r Q W) (h : ∀ v H', Q v H' → Q' v H') : Aft S ρ H r Q' W := by
  cases r with
  | ok d h' => exact fun ρ1 v H1 s R r => h _ _ (a ρ1 v H1 s R r)
  | exc c d h' => exact a
  | stuck => exact a
theorem AftS.later {ρ ρ1 : Own} {H H1 : Hp} {r : SRes} {D : Ends} {W : WX} (a : AftS S ρ H r D W) (s : Go S ρ H ρ1 H1) : AftS S ρ1 H1 r D W := by
  cases r with
  | nx e h' => exact fun ρ2 σ H2 s2 => a ρ2 σ H2 (s.trans s2)
  | rt d h' => exact fun ρ2 σ H2 s2 => a ρ2 σ H2 (s.trans s2)
  | bk e h' => exact fun ρ2 σ H2 s2 => a ρ2 σ H2 (s.trans s2)
  | ct e h' => exact fun ρ2 σ H2 s2 => a ρ2 σ H2 (s.trans s2)
  | exc c d e h' => exact fun ρ2 v σ H2 dx s2 => a ρ2 v σ H2 dx (s.trans s2)
  | stuck => exact a
theorem Rep.go {ρ ρ' : Own} {H H' : Hp} {d : Val} {v : V} (r : Rep S ρ H d v) (g : Go S ρ H ρ' H') : Rep S ρ' H' d v := r.mono g.mv
theorem Reps.go {ρ ρ' : Own} {H H' : Hp} {d : List Val} {v : List V} (r : Reps S ρ H d v) (g : Go S ρ H ρ' H') : Reps S ρ' H' d v := r.mono g.mv
theorem ER.go {ρ ρ' : Own} {H H' : Hp} {d : En} {v : St} (r : ER S ρ H d v) (g : Go S ρ H ρ' H') : ER S ρ' H' d v := r.mono g.mv
end
theorem _root_.L2.PE.imp {X : Cx} {e : Expr} {t t' : TE} (p : PE X e t) (h : ∀ σ H Q, t' σ H Q → t σ H Q) : PE X e t' := ⟨fun pins s σ H Q I q => p.run pins s σ H Q I (h σ H Q q)⟩
theorem _root_.L2.PT.imp {X : Cx} {e : Expr} {t t' : TT} (p : PT X e t) (h : ∀ σ H Q, t' σ H Q → t σ H Q) : PT X e t' := ⟨fun pins s σ H Q I q => p.run pins s σ H Q I (h σ H Q q)⟩
theorem _root_.L2.PA.imp {X : Cx} {e : List Expr} {t t' : TA} (p : PA X e t) (h : ∀ σ H Q, t' σ H Q → t σ H Q) : PA X e t' := ⟨fun pos pins s σ H Q I q => p.run pos pins s σ H Q I (h σ H Q q)⟩
theorem _root_.L2.PS.imp {X : Cx} {e : Stmt} {t t' : TS} (p : PS X e t) (h : ∀ D σ H, t' D σ H → t D σ H) : PS X e t' := ⟨fun pins s σ H D I q => p.run pins s σ H D I (h D σ H q)⟩
theorem _root_.L2.PSs.imp {X : Cx} {e : List Stmt} {t t' : TS} (p : PSs X e t) (h : ∀ D σ H, t' D σ H → t D σ H) : PSs X e t' := ⟨fun pins s σ H D I q => p.run pins s σ H D I (h D σ H q)⟩
end Lad
end
section
set_option maxRecDepth 100000
set_option maxHeartbeats 1000000
namespace Lad
open PySem L2
structure Tb where
  ca : Nat → Addr
  nm : Nat → Str
  fld : Nat → Str
  ex : Option (Addr × Nat × Addr)
abbrev sy (T : Tb) (X : Cx) : Sy := ⟨X.K, T.ca, T.nm, T.fld, X.prog, X.w, T.ex⟩
section
variable {S : Sy} {ρ : Own} {H : Hp}
theorem Rep.non_ {v : V} (r : Rep S ρ H .non v) : v = .non := by cases r; rfl
theorem Rep.bl_ {b : Bool} {v : V} (r : Rep S ρ H (.bl b) v) : v = .bl b := by cases r; rfl
theorem Rep.int_ {b : Int} {v : V} (r : Rep S ρ H (.int b) v) : v = .int b := by cases r; rfl
theorem Rep.str_ {b : Str} {v : V} (r : Rep S ρ H (.str b) v) : v = .str b := by cases r; rfl
theorem Rep.tup_ {ds : List Val} {v : V} (r : Rep S ρ H (.tup ds) v) : ∃ a vs, v = .ref a ∧ StT S.K H a vs ∧ Reps S ρ H ds vs := by cases r; exact ⟨_, _, rfl, by assumption, by assumption⟩
theorem Rep.ref_ {i : Nat} {v : V} (r : Rep S ρ H (.ref i) v) : ∃ a, v = .ref a ∧ ρ.nm[i]? = some a := by cases r; exact ⟨_, rfl, by assumption⟩
/-- a list of the heap, to be read -/
def lstAt (h : Hea) (i : Nat) : Option (List Val) := match h[i]? with
  | some (.lst xs) => some xs
  | some (.fro ns) => some (ns.map Val.int)
  | _ => none
theorem Rel.lst {h : Hea} (R : Rel S ρ h H) {i : Nat} {xs : List Val} (e : lstAt h i = some xs) {a : Addr} (ea : ρ.nm[i]? = some a) : ∃ vs, SqL S.K H a vs ∧ Reps S ρ H xs vs := by
  unfold lstAt at e
  split at e
  · rename_i ys hy
    cases e
    have o := R.ob i _ a hy ea
    cases o with
    | lst h1 h2 => exact ⟨_, .inl (.inl h1), h2⟩
  · rename_i ys hy
    cases e
    have o := R.ob i _ a hy ea
    cases o with
    | fro h1 => exact ⟨_, .inl (.inr ⟨_, h1⟩), reps_ints _⟩
  · cases e
end
def opt (o : Option Val) (h : Hea) : Res Val := match o with
  | some d => .ok d h
  | none => .stuck
section
variable {S : Sy} {ρ : Own} {H : Hp} {h : Hea} {Q : VK} {W : XK}
theorem Aft.same {d : Val} {v : V} (a : Aft S ρ H (.ok d h) Q W) (R : Rel S ρ h H) (r : Rep S ρ H d v) : Q v H := a ρ v H .rfl R r
theorem Aft.tup {ds : List Val} {vs : List V} (a : Aft S ρ H (.ok (.tup ds) h) Q W) (R : Rel S ρ h H) (r : Reps S ρ H ds vs) : NewT H vs Q := fun p ob n z =>
  a ρ (.ref p) _ (.side n) (R.side n) (.tup (.inl ⟨ob, upd_same, z⟩) (r.mono (.side n)))
theorem Aft.new {ds : List Val} {vs : List V} (a : Aft S ρ H (.ok (.ref h.length) (h ++ [.lst ds])) Q W) (R : Rel S ρ h H) (r : Reps S ρ H ds vs) (p : Addr) (n : H p = none) : Q (.ref p) (upd H p (.lst vs)) :=
  a (ρ.add p) (.ref p) _ (.new n) (R.new n (.lst upd_same (r.mono (.new n)))) (.ref (by rw [R.len]; exact add_at))
end
section
variable {S : Sy} {ρ : Own} {H : Hp} {h : Hea} {Q : VK} {W : XK}
/-- a list that nothing changes any more -/
theorem Aft.flst {ds : List Val} {vs : List V} (a : Aft S ρ H (.ok (.lst ds) h) Q W) (R : Rel S ρ h H) (r : Reps S ρ H ds vs) (p : Addr) (n : H p = none) : Q (.ref p) (upd H p (.lst vs)) :=
  a ρ (.ref p) _ (.side n) (R.side n) (.lst (R.fz n) upd_same (r.mono (.side n)))
/-- a list, to be read -/
def lstOf (h : Hea) : Val → Option (List Val)
  | .lst xs => some xs
  | .ref i => lstAt h i
  | _ => none
theorem Rel.lstV (R : Rel S ρ h H) {d : Val} {v : V} {xs : List Val} (r : Rep S ρ H d v) (e : lstOf h d = some xs) : ∃ a vs, v = .ref a ∧ SqL S.K H a vs ∧ Reps S ρ H xs vs := by
  unfold lstOf at e
  split at e
  · cases e
    cases r with
    | lst f h1 h2 => exact ⟨_, _, rfl, .inl (.inl h1), h2⟩
  · obtain ⟨p, rfl, ep⟩ := r.ref_
    obtain ⟨vs, s, q⟩ := R.lst e ep
    exact ⟨p, vs, rfl, s, q⟩
  · cases e
/-- a list other than the script -/
def lstP (h : Hea) : Val → Option (List Val)
  | .lst xs => some xs
  | .ref i => match h[i]? with
    | some (.lst xs) => some xs
    | _ => none
  | _ => none
theorem Rel.lstQ (R : Rel S ρ h H) {d : Val} {v : V} {xs : List Val} (r : Rep S ρ H d v) (e : lstP h d = some xs) : ∃ a vs, v = .ref a ∧ H a = some (.lst vs) ∧ Reps S ρ H xs vs := by
  unfold lstP at e
  split at e
  · cases e
    cases r with
    | lst f h1 h2 => exact ⟨_, _, rfl, h1, h2⟩
  · obtain ⟨p, rfl, ep⟩ := r.ref_
    split at e
    · rename_i hx
      cases e
      have o := R.ob _ _ _ hx ep
      cases o with
      | lst h1 h2 => exact ⟨p, _, rfl, h1, h2⟩
    · cases e
  · cases e
end
theorem Reps.times {S : Sy} {ρ : Own} {H : Hp} {ds : List Val} {vs : List V} (r : Reps S ρ H ds vs) : ∀ n : Nat, Reps S ρ H (List.replicate n ds).flatten (List.replicate n vs).flatten
  | 0 => .nil
  | n + 1 => by
    rw [List.replicate_succ, List.replicate_succ, List.flatten_cons, List.flatten_cons]
    exact r.app (r.times n)
def rB (S : Sy) (g : Hea → Val → Val → Option Val) : R2 := fun x y H Q => ∃ ρ h d1 d2, Rel S ρ h H ∧ Rep S ρ H d1 x ∧ Rep S ρ H d2 y ∧ Aft S ρ H (opt (g h d1 d2) h) Q (fun _ _ _ => False)
def rU1 (S : Sy) (g : Hea → Val → Option Val) : V → Hp → VK → Prop := fun x H Q => ∃ ρ h d, Rel S ρ h H ∧ Rep S ρ H d x ∧ Aft S ρ H (opt (g h d) h) Q (fun _ _ _ => False)
theorem OpR.imp {X : Cx} {f : Value → Value → Sem Value} {r r' : R2} (p : OpR X f r) (h : ∀ x y H Q, r' x y H Q → r x y H Q) : OpR X f r' := fun pins s σ H x y v u Q I rx ry q => p pins s σ H x y v u Q I rx ry (h x y H Q q)
def mulOk (i j : Int) : Bool := decide ((-(2 ^ 64) < i ∧ i < 2 ^ 64) ∨ (-(2 ^ 64) < j ∧ j < 2 ^ 64)) || decide (i.natAbs.log2 + j.natAbs.log2 < 1000000)
def oAdd : Hea → Val → Val → Option Val
  | _, .int a, .int b => some (.int (a + b))
  | _, .str a, .str b => if a.length + b.length ≤ 16777216 then some (.str (a ++ b)) else none
  | _, .tup a, .tup b => if a.length + b.length ≤ 16777216 then some (.tup (a ++ b)) else none
  | h, a, b => match lstP h a, lstP h b with
    | some a, some b => if a.length + b.length ≤ 16777216 then some (.lst (a ++ b)) else none
    | _, _ => none
def oSub : Hea → Val → Val → Option Val
  | _, .int a, .int b => some (.int (a - b))
  | _, _, _ => none
def oMul : Hea → Val → Val → Option Val
  | _, .int a, .int b => if mulOk a b = true then some (.int (a * b)) else none
  | h, a, .int k => match lstP h a with
    | some xs => if -(2 ^ 63) ≤ k ∧ k < 2 ^ 63 ∧ xs.length * k.toNat ≤ 16777216 then some (.lst (List.replicate k.toNat xs).flatten) else none
    | none => none
  | _, _, _ => none
def oDiv : Hea → Val → Val → Option Val
  | _, .int a, .int b => if b ≠ 0 ∧ b.natAbs.log2 < 9000 then some (.int (a.fdiv b)) else none
  | _, _, _ => none
def oMod : Hea → Val → Val → Option Val
  | _, .int a, .int b => if b ≠ 0 then some (.int (a.fmod b)) else none
  | _, _, _ => none
def oPow : Hea → Val → Val → Option Val
  | _, .int a, .int b => if 0 ≤ b ∧ b ≤ 1000000 ∧ a.natAbs < 2 ^ 64 then some (.int (a ^ b.toNat)) else none
  | _, _, _ => none
def oNeg : Hea → Val → Option Val
  | _, .int a => some (.int (-a))
  | _, _ => none
section
variable {T : Tb} {X : Cx}
theorem o_add : OpR X (binaryOp .Add) (rB (sy T X) oAdd) := by
  refine OpR.imp (OpR.or op_add (OpR.or op_add_str (OpR.or op_catS op_cat))) fun x y H Q h => ?_
  obtain ⟨ρ, h, d1, d2, R, r1, r2, a⟩ := h
  unfold oAdd at a
  split at a
  · obtain rfl := r1.int_; obtain rfl := r2.int_
    exact .inl ⟨_, _, rfl, rfl, a.same R (.int _)⟩
  · obtain rfl := r1.str_; obtain rfl := r2.str_
    split at a
    · rename_i hl
      exact .inr (.inl ⟨_, _, rfl, rfl, by rw [sizeLine_eq]; exact hl, a.same R (.str _)⟩)
    · exact a.elim
  · obtain ⟨p1, v1, rfl, s1, q1⟩ := r1.tup_
    obtain ⟨p2, v2, rfl, s2, q2⟩ := r2.tup_
    split at a
    · rename_i hl
      have l1 := q1.length
      have l2 := q2.length
      refine .inr (.inr (.inl ⟨p1, p2, v1, v2, rfl, rfl, s1.sq, s2.sq, by rw [sizeLine_eq]; omega, fun e => ?_, fun _ e => ?_, fun _ _ => ?_⟩))
      · subst e
        cases q1
        exact a.same R (.tup s2 q2)
      · subst e
        cases q2
        have a : Aft _ ρ H (.ok (.tup (_ ++ [])) h) Q _ := a
        rw [List.append_nil] at a
        exact a.same R (.tup s1 q1)
      · exact a.tup R (q1.app q2)
    · exact a.elim
  · split at a
    · rename_i xs ys e1 e2
      obtain ⟨p1, v1, rfl, s1, q1⟩ := R.lstQ r1 e1
      obtain ⟨p2, v2, rfl, s2, q2⟩ := R.lstQ r2 e2
      have l1 := q1.length
      have l2 := q2.length
      split at a
      · exact .inr (.inr (.inr ⟨p1, p2, v1, v2, rfl, rfl, s1, s2, by rw [sizeLine_eq]; omega, fun p n => Aft.flst a R (q1.app q2) p n⟩))
      · exact a.elim
    · exact a.elim
theorem o_sub : OpR X (binaryOp .Sub) (rB (sy T X) oSub) := by
  refine OpR.imp op_sub fun x y H Q h => ?_
  obtain ⟨ρ, h, d1, d2, R, r1, r2, a⟩ := h
  unfold oSub at a
  split at a
  · obtain rfl := r1.int_; obtain rfl := r2.int_
    exact ⟨_, _, rfl, rfl, a.same R (.int _)⟩
  · exact a.elim
theorem o_mul : OpR X (binaryOp .Mult) (rB (sy T X) oMul) := by
  refine OpR.imp (OpR.or op_mul (OpR.or op_mulW op_rep)) fun x y H Q h => ?_
  obtain ⟨ρ, h, d1, d2, R, r1, r2, a⟩ := h
  unfold oMul at a
  split at a
  · obtain rfl := r1.int_; obtain rfl := r2.int_
    split at a
    · rename_i hm
      unfold mulOk at hm
      rcases Bool.or_eq_true_iff.mp hm with hm | hm
      · have hm2 := of_decide_eq_true hm
        exact .inl ⟨_, _, rfl, rfl, hm2, a.same R (.int _)⟩
      · exact .inr (.inl ⟨_, _, rfl, rfl, (of_decide_eq_true (p := _ < 1000000) hm : _ < 1000000), a.same R (.int _)⟩)
    · exact a.elim
  · obtain rfl := r2.int_
    split at a
    · rename_i xs e1
      split at a
      · rename_i hk
        obtain ⟨p1, v1, rfl, s1, q1⟩ := R.lstQ r1 e1
        have l1 := q1.length
        exact .inr (.inr ⟨p1, _, v1, rfl, rfl, s1, hk.1, hk.2.1, by rw [sizeLine_eq, ← l1]; exact hk.2.2, fun p n => Aft.flst a R (q1.times _) p n⟩)
      · exact a.elim
    · exact a.elim
  · exact a.elim
theorem op_fdivA : OpR X (binaryOp .FloorDiv) (rI (fun _ j => j ≠ 0 ∧ j.natAbs.log2 < 9000) fun i j => .int (i.fdiv j)) := opI fun _ _ _ _ _ _ _ hc q => PyProof.Rows.floordiv_int hc.1 q (.inl (PyProof.noPylong_of_log2 hc.2))
theorem o_div : OpR X (binaryOp .FloorDiv) (rB (sy T X) oDiv) := by
  refine OpR.imp op_fdivA fun x y H Q h => ?_
  obtain ⟨ρ, h, d1, d2, R, r1, r2, a⟩ := h
  unfold oDiv at a
  split at a
  · obtain rfl := r1.int_; obtain rfl := r2.int_
    split at a
    · rename_i hm
      exact ⟨_, _, rfl, rfl, hm, a.same R (.int _)⟩
    · exact a.elim
  · exact a.elim
theorem o_mod : OpR X (binaryOp .Mod) (rB (sy T X) oMod) := by
  refine OpR.imp op_modN fun x y H Q h => ?_
  obtain ⟨ρ, h, d1, d2, R, r1, r2, a⟩ := h
  unfold oMod at a
  split at a
  · obtain rfl := r1.int_; obtain rfl := r2.int_
    split at a
    · rename_i hm
      exact ⟨_, _, rfl, rfl, hm, a.same R (.int _)⟩
    · exact a.elim
  · exact a.elim
theorem o_pow : OpR X (binaryOp .Pow) (rB (sy T X) oPow) := by
  refine OpR.imp op_pow fun x y H Q h => ?_
  obtain ⟨ρ, h, d1, d2, R, r1, r2, a⟩ := h
  unfold oPow at a
  split at a
  · obtain rfl := r1.int_; obtain rfl := r2.int_
    split at a
    · rename_i hm
      exact ⟨_, _, rfl, rfl, hm, a.same R (.int _)⟩
    · exact a.elim
  · exact a.elim
theorem o_neg : UnR X (unaryOp .USub) (rU1 (sy T X) oNeg) := by
  intro pins s σ H x v Q I rx h
  refine un_neg pins s σ H x v Q I rx ?_
  obtain ⟨ρ, h, d, R, r, a⟩ := h
  unfold oNeg at a
  split at a
  · obtain rfl := r.int_
    exact ⟨_, rfl, a.same R (.int _)⟩
  · exact a.elim
end
def mapO {α β : Type} (f : α → Option β) : List α → Option (List β)
  | [] => some []
  | x :: xs => match f x, mapO f xs with
    | some y, some ys => some (y :: ys)
    | _, _ => none
def toD : Nat → Hea → Val → Option PyData
  | _, _, .non => some .none
  | _, _, .bl b => some (.bool b)
  | _, _, .int i => some (.int i)
  | _, _, .str x => some (.str x)
  | 0, _, _ => none
  | n + 1, h, .tup xs => match mapO (toD n h) xs with
    | some ys => some (.tuple ys)
    | none => none
  | n + 1, h, .lst xs => match mapO (toD n h) xs with
    | some ys => some (.list ys)
    | none => none
  | n + 1, h, .ref i => match lstAt h i with
    | some xs => match mapO (toD n h) xs with
      | some ys => some (.list ys)
      | none => none
    | none => none
  | _ + 1, _, _ => none
section
variable {S : Sy} {ρ : Own} {H : Hp} {h : Hea}
theorem mapO_dp (n : Nat) (ih : ∀ (d : Val) (v : V) (p : PyData), Rep S ρ H d v → toD n h d = some p → Dp S.K H v p) : ∀ (xs : List Val) (vs : List V) (ps : List PyData), Reps S ρ H xs vs → mapO (toD n h) xs = some ps → DpAll S.K H vs ps
  | [], _, _, .nil, e => by cases e; exact .nil
  | x :: xs, _, _, .cons r t, e => by
    unfold mapO at e
    split at e
    · rename_i y ys h1 h2
      cases e
      exact .cons (ih _ _ _ r h1) (mapO_dp n ih xs _ _ t h2)
    · cases e
theorem toD_dp (R : Rel S ρ h H) : ∀ (n : Nat) (d : Val) (v : V) (p : PyData), Rep S ρ H d v → toD n h d = some p → Dp S.K H v p := by
  intro n
  induction n with
  | zero =>
    intro d v p r e
    cases r <;> simp only [toD] at e <;> cases e <;> constructor
  | succ n ih =>
    intro d v p r e
    cases r with
    | non => simp only [toD] at e; cases e; exact .non
    | bl b => simp only [toD] at e; cases e; exact .bl b
    | int b => simp only [toD] at e; cases e; exact .int b
    | str b => simp only [toD] at e; cases e; exact .str b
    | tup s t =>
      simp only [toD] at e
      split at e
      · rename_i ys hy
        cases e
        exact .tup s.sq (mapO_dp n ih _ _ _ t hy)
      · cases e
    | lst f h1 h2 =>
      simp only [toD] at e
      split at e
      · rename_i ys hy
        cases e
        exact .lst (.inl (.inl h1)) (mapO_dp n ih _ _ _ h2 hy)
      · cases e
    | dicK => simp only [toD] at e; cases e
    | dicT => simp only [toD] at e; cases e
    | obj => simp only [toD] at e; cases e
    | ref ea =>
      simp only [toD] at e
      split at e
      · rename_i xs hx
        split at e
        · rename_i ys hy
          cases e
          obtain ⟨vs, s, t⟩ := R.lst hx ea
          exact .lst s (mapO_dp n ih _ _ _ t hy)
        · cases e
      · cases e
    | exn h1 h2 r => simp only [toD] at e; cases e
end
def eqB (h : Hea) (a b : Val) : Option Bool := match toD 60 h a, toD 60 h b with
  | some p, some q => if SeqAt.shaped p = true ∧ SeqAt.shaped q = true then some (PyData.eqv p q) else none
  | _, _ => none
def oEq (h : Hea) (a b : Val) : Option Val := (eqB h a b).map .bl
def oNe (h : Hea) (a b : Val) : Option Val := (eqB h a b).map fun c => .bl (!c)
theorem eqB_some {h : Hea} {a b : Val} {c : Bool} (e : eqB h a b = some c) : ∃ p q, toD 60 h a = some p ∧ toD 60 h b = some q ∧ SeqAt.shaped p = true ∧ SeqAt.shaped q = true ∧ c = PyData.eqv p q := by
  unfold eqB at e
  split at e
  · split at e
    · rename_i p q h1 h2 hs
      cases e
      exact ⟨p, q, h1, h2, hs.1, hs.2, rfl⟩
    · cases e
  · cases e
section
variable {T : Tb} {X : Cx}
theorem o_eq (hu : X.A.units + 64 < cLine) : OpR X (compareOp .Eq) (rB (sy T X) oEq) := by
  refine OpR.imp (op_eqD hu) fun x y H Q h => ?_
  obtain ⟨ρ, h, d1, d2, R, r1, r2, a⟩ := h
  unfold oEq at a
  cases e : eqB h d1 d2 with
  | none => rw [e] at a; exact a.elim
  | some c =>
    rw [e] at a
    obtain ⟨p, q, e1, e2, s1, s2, rfl⟩ := eqB_some e
    exact ⟨p, q, toD_dp R _ _ _ _ r1 e1, toD_dp R _ _ _ _ r2 e2, s1, s2, Aft.same (d := .bl _) a R (.bl _)⟩
theorem o_ne (hu : X.A.units + 64 < cLine) : OpR X (compareOp .NotEq) (rB (sy T X) oNe) := by
  refine OpR.imp (op_neD hu) fun x y H Q h => ?_
  obtain ⟨ρ, h, d1, d2, R, r1, r2, a⟩ := h
  unfold oNe at a
  cases e : eqB h d1 d2 with
  | none => rw [e] at a; exact a.elim
  | some c =>
    rw [e] at a
    obtain ⟨p, q, e1, e2, s1, s2, rfl⟩ := eqB_some e
    exact ⟨p, q, toD_dp R _ _ _ _ r1 e1, toD_dp R _ _ _ _ r2 e2, s1, s2, Aft.same (d := .bl _) a R (.bl _)⟩
end
def inB (h : Hea) (a b : Val) : Option Bool := match toD 60 h a, toD 60 h b with
  | some p, some (.list qs) => if SeqAt.shaped p = true ∧ SeqAt.shaped (.list qs) = true then some (qs.any fun z => PyData.eqv z p) else none
  | some p, some (.tuple qs) => if SeqAt.shaped p = true ∧ SeqAt.shaped (.tuple qs) = true then some (qs.any fun z => PyData.eqv z p) else none
  | some (.str p), some (.str q) => some (!(Builtin.Str.occurrences q p 0 q.length 1).isEmpty)
  | _, _ => none
def oIn (h : Hea) (a b : Val) : Option Val := (inB h a b).map .bl
theorem toD_str {n : Nat} {h : Hea} {d : Val} {p : Str} (e : toD n h d = some (.str p)) : d = .str p := by
  cases d with
  | str z => cases n <;> (simp only [toD] at e; cases e; rfl)
  | non => cases n <;> (simp only [toD] at e; cases e)
  | bl z => cases n <;> (simp only [toD] at e; cases e)
  | int z => cases n <;> (simp only [toD] at e; cases e)
  | exn c z => cases n <;> (simp only [toD] at e; cases e)
  | dic c z w => cases n <;> (simp only [toD] at e; cases e)
  | obj c z w => cases n <;> (simp only [toD] at e; cases e)
  | lst z =>
    cases n with
    | zero => simp only [toD] at e; cases e
    | succ n =>
      simp only [toD] at e
      split at e <;> cases e
  | tup z =>
    cases n with
    | zero => simp only [toD] at e; cases e
    | succ n =>
      simp only [toD] at e
      split at e <;> cases e
  | ref z =>
    cases n with
    | zero => simp only [toD] at e; cases e
    | succ n =>
      simp only [toD] at e
      split at e
      · split at e <;> cases e
      · cases e
section
variable {T : Tb} {X : Cx}
def rInT (K : PySem.W.Frag) (ng : Bool) : R2 := fun x y H Q => ∃ d ds, Dp K H x d ∧ Dp K H y (.tuple ds) ∧ SeqAt.shaped d = true ∧ SeqAt.shaped (.tuple ds) = true ∧ Q (.bl (if ng = true then !ds.any (fun z => PyData.eqv z d) else ds.any fun z => PyData.eqv z d)) H
theorem op_inT (hu : X.A.units + 65 < cLine) : OpR X (compareOp .In) (rInT X.K false) := by
  intro pins s σ H x y v u Q I rx ry h
  obtain ⟨d, ds, hd, he, sd, se, q⟩ := h
  obtain ⟨as, r1⟩ := Dp.reads I d x v hd rx
  obtain ⟨bs, r2⟩ := Dp.reads I (.tuple ds) y u he ry
  exact SeqAt.in_tuple_reads r2 r1 (SeqAt.canLay_of_shaped se) (SeqAt.canLay_of_shaped sd) (PyProof.Rows.room_in_shaped sd hu) ⟨.bl _, H, I, rfl, q⟩
theorem o_in (hu : X.A.units + 65 < cLine) : OpR X (compareOp .In) (rB (sy T X) oIn) := by
  refine OpR.imp (OpR.or (op_inD hu) (OpR.or (op_inT hu) op_in_str)) fun x y H Q h => ?_
  obtain ⟨ρ, h, d1, d2, R, r1, r2, a⟩ := h
  unfold oIn inB at a
  split at a
  · rename_i p qs e1 e2
    split at a
    · rename_i hs
      exact .inl ⟨p, qs, toD_dp R _ _ _ _ r1 e1, toD_dp R _ _ _ _ r2 e2, hs.1, hs.2, Aft.same (d := .bl _) a R (.bl _)⟩
    · exact a.elim
  · rename_i p qs e1 e2
    split at a
    · rename_i hs
      exact .inr (.inl ⟨p, qs, toD_dp R _ _ _ _ r1 e1, toD_dp R _ _ _ _ r2 e2, hs.1, hs.2, Aft.same (d := .bl _) a R (.bl _)⟩)
    · exact a.elim
  · rename_i p q e1 e2
    obtain rfl := toD_str e1
    obtain rfl := toD_str e2
    obtain rfl := r1.str_
    obtain rfl := r2.str_
    exact .inr (.inr ⟨p, q, rfl, rfl, Aft.same (d := .bl _) a R (.bl _)⟩)
  · exact a.elim
end
def oLt : Hea → Val → Val → Option Val
  | _, .int a, .int b => some (.bl (decide (a < b)))
  | _, .str a, .str b => some (.bl (decide (a.cps.toList < b.cps.toList)))
  | _, _, _ => none
def oLe : Hea → Val → Val → Option Val
  | _, .int a, .int b => some (.bl (decide (a ≤ b)))
  | _, _, _ => none
def oGt : Hea → Val → Val → Option Val
  | _, .int a, .int b => some (.bl (decide (b < a)))
  | _, _, _ => none
def oGe : Hea → Val → Val → Option Val
  | _, .int a, .int b => some (.bl (decide (b ≤ a)))
  | _, _, _ => none
/-- is, is not: None or a bool on the right -/
def isB : Val → Val → Option Bool
  | .non, .non => some true
  | _, .non => some false
  | .bl a, .bl b => some (decide (a = b))
  | _, _ => none
def oIs (_ : Hea) (a b : Val) : Option Val := (isB a b).map .bl
def oIsNot (_ : Hea) (a b : Val) : Option Val := (isB a b).map fun c => .bl (!c)
section
variable {T : Tb} {X : Cx}
theorem o_lt : OpR X (compareOp .Lt) (rB (sy T X) oLt) := by
  refine OpR.imp (OpR.or op_lt op_lt_str) fun x y H Q h => ?_
  obtain ⟨ρ, h, d1, d2, R, r1, r2, a⟩ := h
  unfold oLt at a
  split at a
  · obtain rfl := r1.int_; obtain rfl := r2.int_
    exact .inl ⟨_, _, rfl, rfl, a.same R (.bl _)⟩
  · obtain rfl := r1.str_; obtain rfl := r2.str_
    exact .inr ⟨_, _, rfl, rfl, a.same R (.bl _)⟩
  · exact a.elim
theorem o_le : OpR X (compareOp .LtE) (rB (sy T X) oLe) := by
  refine OpR.imp op_le fun x y H Q h => ?_
  obtain ⟨ρ, h, d1, d2, R, r1, r2, a⟩ := h
  unfold oLe at a
  split at a
  · obtain rfl := r1.int_; obtain rfl := r2.int_
    exact ⟨_, _, rfl, rfl, a.same R (.bl _)⟩
  · exact a.elim
theorem o_gt : OpR X (compareOp .Gt) (rB (sy T X) oGt) := by
  refine OpR.imp op_gt fun x y H Q h => ?_
  obtain ⟨ρ, h, d1, d2, R, r1, r2, a⟩ := h
  unfold oGt at a
  split at a
  · obtain rfl := r1.int_; obtain rfl := r2.int_
    exact ⟨_, _, rfl, rfl, a.same R (.bl _)⟩
  · exact a.elim
theorem o_ge : OpR X (compareOp .GtE) (rB (sy T X) oGe) := by
  refine OpR.imp op_ge fun x y H Q h => ?_
  obtain ⟨ρ, h, d1, d2, R, r1, r2, a⟩ := h
  unfold oGe at a
  split at a
  · obtain rfl := r1.int_; obtain rfl := r2.int_
    exact ⟨_, _, rfl, rfl, a.same R (.bl _)⟩
  · exact a.elim
theorem o_is : OpR X (compareOp .Is) (rB (sy T X) oIs) := by
  refine OpR.imp (OpR.or op_isN op_is_bl) fun x y H Q h => ?_
  obtain ⟨ρ, h, d1, d2, R, r1, r2, a⟩ := h
  unfold oIs isB at a
  split at a
  · obtain rfl := r1.non_; obtain rfl := r2.non_
    exact .inl ⟨rfl, Aft.same (d := .bl _) a R (.bl _)⟩
  · rename_i hn
    obtain rfl := r2.non_
    refine .inl ⟨rfl, ?_⟩
    have e : decide (x = V.non) = false := by
      refine decide_eq_false fun z => ?_
      subst z
      cases r1
      exact hn rfl
    rw [e]
    exact Aft.same (d := .bl _) a R (.bl _)
  · obtain rfl := r1.bl_; obtain rfl := r2.bl_
    exact .inr ⟨_, _, rfl, rfl, Aft.same (d := .bl _) a R (.bl _)⟩
  · exact a.elim
theorem o_isNot : OpR X (compareOp .IsNot) (rB (sy T X) oIsNot) := by
  refine OpR.imp (OpR.or op_notN op_isnot_bl) fun x y H Q h => ?_
  obtain ⟨ρ, h, d1, d2, R, r1, r2, a⟩ := h
  unfold oIsNot isB at a
  split at a
  · obtain rfl := r1.non_; obtain rfl := r2.non_
    exact .inl ⟨rfl, Aft.same (d := .bl _) a R (.bl _)⟩
  · rename_i hn
    obtain rfl := r2.non_
    refine .inl ⟨rfl, ?_⟩
    have e : decide (x = V.non) = false := by
      refine decide_eq_false fun z => ?_
      subst z
      cases r1
      exact hn rfl
    rw [e]
    exact Aft.same (d := .bl _) a R (.bl _)
  · obtain rfl := r1.bl_; obtain rfl := r2.bl_
    exact .inr ⟨_, _, rfl, rfl, Aft.same (d := .bl _) a R (.bl _)⟩
  · exact a.elim
end
end Lad
end
section
set_option maxRecDepth 100000
set_option maxHeartbeats 1000000
namespace Lad
open PySem L2
theorem itT {c : Bool} {A B : Prop} (e : c = true) (h : A) : if c = true then A else B := by rw [if_pos e]; exact h
theorem itF {c : Bool} {A B : Prop} (e : c = false) (h : B) : if c = true then A else B := by rw [if_neg (by rw [e]; decide)]; exact h
section
variable (S : Sy)
def AftL (ρ : Own) (H : Hp) (r : Res (List Val)) (Q : VK) (W : XK) : Prop := match r with
  | .ok xs h' => ∀ ρ' p vs H', Go S ρ H ρ' H' → Rel S ρ' h' H' → H' p = some (.lst vs) → Fz ρ' p → H p = none → Reps S ρ' H' xs vs → Rel S (ρ'.add p) (h' ++ [.lst xs]) H' → Q (.ref p) H'
  | .exc c d h' => ∀ ρ' v H' dx, Go S ρ H ρ' H' → Rel S ρ' h' H' → Rep S ρ' H' d v → H' dx = some (.xd [(S.fld c, v)]) → W (.ref (S.ca c)) (some dx) H'
  | .stuck => False
def AftA (ρ : Own) (H : Hp) (r : Res (List Val)) (Q : List V → Hp → Prop) (W : XK) : Prop := match r with
  | .ok xs h' => ∀ ρ' vs H', Go S ρ H ρ' H' → Rel S ρ' h' H' → Reps S ρ' H' xs vs → Q vs H'
  | .exc c d h' => ∀ ρ' v H' dx, Go S ρ H ρ' H' → Rel S ρ' h' H' → Rep S ρ' H' d v → H' dx = some (.xd [(S.fld c, v)]) → W (.ref (S.ca c)) (some dx) H'
  | .stuck => False
def tL (W : WX) (f : En → Hea → Res (List Val)) : TE := fun σ H Q => ∃ ρ e h, Rel S ρ h H ∧ ER S ρ H e σ ∧ AftL S ρ H (f e h) Q (fun c d H' => W c d σ H')
def tA (W : WX) (f : En → Hea → Res (List Val)) : TA := fun σ H Q => ∃ ρ e h, Rel S ρ h H ∧ ER S ρ H e σ ∧ AftA S ρ H (f e h) Q (fun c d H' => W c d σ H')
end
abbrev SE (T : Tb) (X : Cx) (W : WX) (e : Expr) (f : En → Hea → Res Val) : Prop := PE X e (tE (sy T X) W f)
abbrev SL (T : Tb) (X : Cx) (W : WX) (e : Expr) (f : En → Hea → Res (List Val)) : Prop := PE X e (tL (sy T X) W f)
abbrev SA (T : Tb) (X : Cx) (W : WX) (es : List Expr) (f : En → Hea → Res (List Val)) : Prop := PA X es (tA (sy T X) W f)
abbrev ST (T : Tb) (X : Cx) (W : WX) (e : Expr) (f : En → Hea → Res Val) : Prop := PT X e (tB (tE (sy T X) W f))
section
variable {S : Sy} {W : WX} {σ : St} {H : Hp} {Q : VK}
/-- where an expression has been -/
structure Been (S : Sy) (σ : St) (H : Hp) (v : V) (ρ : Own) (e : En) (d : Val) (h : Hea) : Prop where
  rel : Rel S ρ h H
  env : ER S ρ H e σ
  rep : Rep S ρ H d v
theorem tE.bind {f : En → Hea → Res Val} {g : En → Val → Hea → Res Val} (a : tE S W (fun e h => (f e h).bind (g e)) σ H Q) :
    tE S W f σ H (fun v H1 => ∃ ρ e d h, Been S σ H1 v ρ e d h ∧ Aft S ρ H1 (g e d h) Q (fun c d H' => W c d σ H')) := by
  obtain ⟨ρ, e, h, R, E, a⟩ := a
  exact ⟨ρ, e, h, R, E, a.bind.mono fun v H1 ⟨ρ1, d, h1, s, R1, r, a⟩ => ⟨ρ1, e, d, h1, ⟨R1, E.go s, r⟩, a⟩⟩
/-- a second one behind it -/
theorem Been.then_ {v : V} {ρ : Own} {e : En} {d : Val} {h : Hea} {f : En → Hea → Res Val} {k : Val → Hea → Res Val} (b : Been S σ H v ρ e d h) (a : Aft S ρ H ((f e h).bind k) Q (fun c d H' => W c d σ H')) :
    tE S W f σ H (fun v2 H2 => ∃ ρ2 d2 h2, Been S σ H2 v2 ρ2 e d2 h2 ∧ Rep S ρ2 H2 d v ∧ Aft S ρ2 H2 (k d2 h2) Q (fun c d H' => W c d σ H')) :=
  ⟨ρ, e, h, b.rel, b.env, a.bind.mono fun v2 H2 ⟨ρ2, d2, h2, s, R2, r2, a2⟩ => ⟨ρ2, d2, h2, ⟨R2, b.env.go s, r2⟩, b.rep.go s, a2⟩⟩
theorem Aft.noW {ρ : Own} {h : Hea} {o : Option Val} {W W' : XK} (a : Aft S ρ H (opt o h) Q W) : Aft S ρ H (opt o h) Q W' := by
  cases o with
  | some d => exact a
  | none => exact a
end
def eVar (i : Nat) : En → Hea → Res Val := fun e h => match e[i]? with
  | some (some d) => .ok d h
  | _ => .stuck
def eC (d : Val) : En → Hea → Res Val := fun _ h => .ok d h
section
variable {T : Tb} {X : Cx} {W : WX}
theorem se_var {i : Nat} {x : Str} {pos : Pos} (p : PE X (.Name x pos) (tVar i)) : SE T X W (.Name x pos) (eVar i) := p.imp fun σ H Q h => by
  obtain ⟨ρ, e, h, R, E, a⟩ := h
  unfold eVar at a
  split at a
  · rename_i d hd
    obtain ⟨v, ev, r⟩ := E.get hd
    exact ⟨v, ev, a.same R r⟩
  · exact a.elim
theorem se_cst {e : Expr} {d : Val} {v : V} (p : PE X e (tC v)) (hr : ∀ ρ H, Rep (sy T X) ρ H d v) : SE T X W e (eC d) := p.imp fun σ H Q h => by
  obtain ⟨ρ, e, h, R, E, a⟩ := h
  exact a.same R (hr ρ H)
theorem se_int {i j pos} : SE T X W (.Constant (.int i) j pos) (eC (.int i)) := se_cst pe_int fun _ _ => .int i
theorem se_bl {i j pos} : SE T X W (.Constant (.bool i) j pos) (eC (.bl i)) := se_cst pe_bl fun _ _ => .bl i
theorem se_non {j pos} : SE T X W (.Constant .none j pos) (eC .non) := se_cst pe_non fun _ _ => .non
theorem se_str {i j pos} : SE T X W (.Constant (.str i) j pos) (eC (.str i)) := se_cst pe_str fun _ _ => .str i
end
def eBin (g : Hea → Val → Val → Option Val) (f1 f2 : En → Hea → Res Val) : En → Hea → Res Val := fun e h => (f1 e h).bind fun x h1 => (f2 e h1).bind fun y h2 => opt (g h2 x y) h2
def eUn (g : Hea → Val → Option Val) (f : En → Hea → Res Val) : En → Hea → Res Val := fun e h => (f e h).bind fun x h1 => opt (g h1 x) h1
section
variable {T : Tb} {X : Cx} {W : WX} {a b c : Expr} {f1 f2 f3 : En → Hea → Res Val} {pos : Pos}
theorem bin_imp {g : Hea → Val → Val → Option Val} {σ : St} {H : Hp} {Q : VK} (q : tE (sy T X) W (eBin g f1 f2) σ H Q) : tOp (rB (sy T X) g) (tE (sy T X) W f1) (tE (sy T X) W f2) σ H Q := by
  obtain ⟨ρ, e, h, R, E, a⟩ := tE.bind (f := f1) (g := fun e x h1 => (f2 e h1).bind fun y h2 => opt (g h2 x y) h2) q
  refine ⟨ρ, e, h, R, E, a.mono fun v H1 ⟨ρ1, e1, d1, h1, b1, a1⟩ => ?_⟩
  obtain ⟨ρ', e', h', R', E', a'⟩ := b1.then_ (f := f2) (W := W) a1
  exact ⟨ρ', e', h', R', E', a'.mono fun v2 H2 ⟨ρ2, d2, h2, b2, r, a2⟩ => ⟨ρ2, h2, d1, d2, b2.rel, r, b2.rep, a2.noW⟩⟩
theorem se_bin {op : Operator} {g : Hea → Val → Val → Option Val} (ho : OpR X (binaryOp op) (rB (sy T X) g)) (ha : SE T X W a f1) (hb : SE T X W b f2) : SE T X W (.BinOp a op b pos) (eBin g f1 f2) :=
  (pe_op ho ha hb).imp fun σ H Q q => bin_imp q
theorem se_un {op : UnaryOp} {g : Hea → Val → Option Val} (ho : UnR X (unaryOp op) (rU1 (sy T X) g)) (ha : SE T X W a f1) : SE T X W (.UnaryOp op a pos) (eUn g f1) :=
  (pe_un ho ha).imp fun σ H Q q => by
    obtain ⟨ρ, e, h, R, E, a⟩ := tE.bind (f := f1) (g := fun e x h1 => opt (g h1 x) h1) q
    exact ⟨ρ, e, h, R, E, a.mono fun v H1 ⟨ρ1, e1, d1, h1, b1, a1⟩ => ⟨ρ1, h1, d1, b1.rel, b1.rep, a1.noW⟩⟩
theorem se_cmp {op : CmpOp} {g : Hea → Val → Val → Option Val} (ho : OpR X (compareOp op) (rB (sy T X) g)) (ha : SE T X W a f1) (hb : SE T X W b f2) (hm : behindInMarks op b = false) : SE T X W (.Compare a [op] [b] pos) (eBin g f1 f2) :=
  (pe_cmpR ho ha hb hm).imp fun σ H Q q => bin_imp q
theorem st_cmp {op : CmpOp} {g : Hea → Val → Val → Option Val} (ho : OpR X (compareOp op) (rB (sy T X) g)) (ha : SE T X W a f1) (hb : SE T X W b f2) (hm : behindInMarks op b = false) : ST T X W (.Compare a [op] [b] pos) (eBin g f1 f2) :=
  (pt_cmpR ho ha hb hm).imp fun σ H Q q => bin_imp q
/-- a op b op' c -/
def eChain (g g' : Hea → Val → Val → Option Val) (f1 f2 f3 : En → Hea → Res Val) : En → Hea → Res Val := fun e h => (f1 e h).bind fun x h1 => (f2 e h1).bind fun y h2 => match g h2 x y with
  | some (.bl true) => (f3 e h2).bind fun z h3 => opt (g' h3 y z) h3
  | some (.bl false) => .ok (.bl false) h2
  | _ => .stuck
theorem chain_imp {g g' : Hea → Val → Val → Option Val} {σ : St} {H : Hp} {Q : VK} (q : tE (sy T X) W (eChain g g' f1 f2 f3) σ H Q) : tChain (rB (sy T X) g) (rB (sy T X) g') (tE (sy T X) W f1) (tE (sy T X) W f2) (tE (sy T X) W f3) σ H Q := by
  obtain ⟨ρ, e, h, R, E, a⟩ := tE.bind (f := f1) (g := fun e x h1 => (f2 e h1).bind fun y h2 => match g h2 x y with
    | some (.bl true) => (f3 e h2).bind fun z h3 => opt (g' h3 y z) h3
    | some (.bl false) => .ok (.bl false) h2
    | _ => .stuck) q
  refine ⟨ρ, e, h, R, E, a.mono fun v H1 ⟨ρ1, e1, d1, h1, b1, a1⟩ => ?_⟩
  obtain ⟨ρ', e', h', R', E', a'⟩ := b1.then_ (f := f2) (W := W) a1
  refine ⟨ρ', e', h', R', E', a'.mono fun v2 H2 ⟨ρ2, d2, h2, b2, r, a2⟩ => ⟨ρ2, h2, d1, d2, b2.rel, r, b2.rep, ?_⟩⟩
  split at a2
  · rename_i hg
    rw [hg]
    refine fun ρ3 v3 H3 s3 R3 r3 => ?_
    obtain rfl := r3.bl_
    refine ⟨true, rfl, ?_⟩
    refine itT rfl ?_
    have b3 : Been (sy T X) σ H3 v2 ρ3 e1 d2 h2 := ⟨R3, b2.env.go s3, b2.rep.go s3⟩
    obtain ⟨ρ4, e4, h4, R4, E4, a4⟩ := b3.then_ (f := f3) (W := W) (a2.later s3)
    exact ⟨ρ4, e4, h4, R4, E4, a4.mono fun v5 H5 ⟨ρ5, d5, h5, b5, r5, a5⟩ => ⟨ρ5, h5, d2, d5, b5.rel, r5, b5.rep, a5.noW⟩⟩
  · rename_i hg
    rw [hg]
    refine fun ρ3 v3 H3 s3 R3 r3 => ?_
    obtain rfl := r3.bl_
    refine ⟨false, rfl, ?_⟩
    refine itF rfl ?_
    exact a2 ρ3 _ H3 s3 R3 r3
  · exact a2.elim
end
def eAnd (f1 f2 : En → Hea → Res Val) : En → Hea → Res Val := fun e h => (f1 e h).bind fun x h1 => match x with
  | .bl true => f2 e h1
  | .bl false => .ok (.bl false) h1
  | _ => .stuck
def eOr (f1 f2 : En → Hea → Res Val) : En → Hea → Res Val := fun e h => (f1 e h).bind fun x h1 => match x with
  | .bl true => .ok (.bl true) h1
  | .bl false => f2 e h1
  | _ => .stuck
def oNot : Hea → Val → Option Val
  | _, .bl b => some (.bl (!b))
  | _, _ => none
def eIf (f1 f2 f3 : En → Hea → Res Val) : En → Hea → Res Val := fun e h => (f1 e h).bind fun x h1 => match x with
  | .bl true => f2 e h1
  | .bl false => f3 e h1
  | _ => .stuck
section
variable {T : Tb} {X : Cx} {W : WX} {a b c : Expr} {rest : List Expr} {f1 f2 f3 : En → Hea → Res Val} {pos : Pos}
theorem se_one {op} (h : SE T X W a f1) : SE T X W (.BoolOp op [a] pos) f1 := pe_one h
theorem se_and (ha : SE T X W a f1) (hb : SE T X W (.BoolOp .And (b :: rest) pos) f2) : SE T X W (.BoolOp .And (a :: b :: rest) pos) (eAnd f1 f2) := (pe_and ha hb).imp fun σ H Q q => by
  obtain ⟨ρ, e, h, R, E, a⟩ := tE.bind (f := f1) (g := fun e x h1 => match x with | .bl true => f2 e h1 | .bl false => .ok (.bl false) h1 | _ => .stuck) q
  refine ⟨ρ, e, h, R, E, a.mono fun v H1 ⟨ρ1, e1, d1, h1, b1, a1⟩ => ?_⟩
  obtain ⟨R1, E1, r1⟩ := b1
  split at a1
  · obtain rfl := r1.bl_
    refine ⟨true, rfl, ?_⟩
    refine itT rfl ?_
    exact ⟨ρ1, e1, h1, R1, E1, a1⟩
  · obtain rfl := r1.bl_
    refine ⟨false, rfl, ?_⟩
    refine itF rfl ?_
    exact a1.same R1 (.bl _)
  · exact a1.elim
theorem se_not (ha : SE T X W a f1) : SE T X W (.UnaryOp .Not a pos) (eUn oNot f1) := (pe_not ha).imp fun σ H Q q => by
  obtain ⟨ρ, e, h, R, E, a⟩ := tE.bind (f := f1) (g := fun e x h1 => opt (oNot h1 x) h1) q
  refine ⟨ρ, e, h, R, E, a.mono fun v H1 ⟨ρ1, e1, d1, h1, b1, a1⟩ => ?_⟩
  obtain ⟨R1, E1, r1⟩ := b1
  unfold oNot at a1
  split at a1
  · obtain rfl := r1.bl_
    exact ⟨_, rfl, a1.same R1 (.bl _)⟩
  · exact a1.elim
theorem st_val (h : SE T X W a f1) (he : ∀ whole, isTrue a X.env whole = (do let v ← whole; standAt a.pos; holding [v] (truthy v)) := by intro _; rfl) : ST T X W a f1 := pt_val h he
theorem sw_one (h : ST T X W a f1) : PW X (.BoolOp .And [a] pos) (tB (tE (sy T X) W f1)) := pw_and1 h
theorem sw_oneO (h : ST T X W a f1) : PW X (.BoolOp .Or [a] pos) (tB (tE (sy T X) W f1)) := pw_or1 h
theorem _root_.L2.PW.imp {e : Expr} {t t' : TT} (p : PW X e t) (h : ∀ σ H Q, t' σ H Q → t σ H Q) : PW X e t' := ⟨fun whole pins s σ H Q I q => p.run whole pins s σ H Q I (h σ H Q q)⟩
theorem sw_and (ha : ST T X W a f1) (hb : PW X (.BoolOp .And (b :: rest) pos) (tB (tE (sy T X) W f2))) : PW X (.BoolOp .And (a :: b :: rest) pos) (tB (tE (sy T X) W (eAnd f1 f2))) := (pw_and ha hb).imp fun σ H Q q => by
  obtain ⟨ρ, e, h, R, E, a⟩ := tE.bind (f := f1) (g := fun e x h1 => match x with | .bl true => f2 e h1 | .bl false => .ok (.bl false) h1 | _ => .stuck) q
  refine ⟨ρ, e, h, R, E, a.mono fun v H1 ⟨ρ1, e1, d1, h1, b1, a1⟩ => ?_⟩
  obtain ⟨R1, E1, r1⟩ := b1
  split at a1
  · obtain rfl := r1.bl_
    refine ⟨true, rfl, ?_⟩
    refine itT rfl ?_
    exact ⟨ρ1, e1, h1, R1, E1, a1⟩
  · obtain rfl := r1.bl_
    refine ⟨false, rfl, ?_⟩
    refine itF rfl ?_
    obtain ⟨c, ec, q⟩ := a1.same R1 (.bl _)
    cases ec
    exact q
  · exact a1.elim
theorem sw_or (ha : ST T X W a f1) (hb : PW X (.BoolOp .Or (b :: rest) pos) (tB (tE (sy T X) W f2))) : PW X (.BoolOp .Or (a :: b :: rest) pos) (tB (tE (sy T X) W (eOr f1 f2))) := (pw_or ha hb).imp fun σ H Q q => by
  obtain ⟨ρ, e, h, R, E, a⟩ := tE.bind (f := f1) (g := fun e x h1 => match x with | .bl true => .ok (.bl true) h1 | .bl false => f2 e h1 | _ => .stuck) q
  refine ⟨ρ, e, h, R, E, a.mono fun v H1 ⟨ρ1, e1, d1, h1, b1, a1⟩ => ?_⟩
  obtain ⟨R1, E1, r1⟩ := b1
  split at a1
  · obtain rfl := r1.bl_
    refine ⟨true, rfl, ?_⟩
    refine itT rfl ?_
    obtain ⟨c, ec, q⟩ := a1.same R1 (.bl _)
    cases ec
    exact q
  · obtain rfl := r1.bl_
    refine ⟨false, rfl, ?_⟩
    refine itF rfl ?_
    exact ⟨ρ1, e1, h1, R1, E1, a1⟩
  · exact a1.elim
theorem st_bool {op} (h : PW X (.BoolOp op (a :: rest) pos) (tB (tE (sy T X) W f1))) : ST T X W (.BoolOp op (a :: rest) pos) f1 := h.pt
theorem st_not (ha : ST T X W a f1) : ST T X W (.UnaryOp .Not a pos) (eUn oNot f1) := (pt_not ha).imp fun σ H Q q => by
  obtain ⟨ρ, e, h, R, E, a⟩ := tE.bind (f := f1) (g := fun e x h1 => opt (oNot h1 x) h1) q
  refine ⟨ρ, e, h, R, E, a.mono fun v H1 ⟨ρ1, e1, d1, h1, b1, a1⟩ => ?_⟩
  obtain ⟨R1, E1, r1⟩ := b1
  unfold oNot at a1
  split at a1
  · obtain rfl := r1.bl_
    obtain ⟨c, ec, q⟩ := a1.same R1 (.bl _)
    cases ec
    exact ⟨_, rfl, q⟩
  · exact a1.elim
theorem se_if (hc : ST T X W c f1) (ha : SE T X W a f2) (hb : SE T X W b f3) : SE T X W (.IfExp c a b pos) (eIf f1 f2 f3) := (pe_ifExp hc ha hb).imp fun σ H Q q => by
  obtain ⟨ρ, e, h, R, E, a⟩ := tE.bind (f := f1) (g := fun e x h1 => match x with | .bl true => f2 e h1 | .bl false => f3 e h1 | _ => .stuck) q
  refine ⟨ρ, e, h, R, E, a.mono fun v H1 ⟨ρ1, e1, d1, h1, b1, a1⟩ => ?_⟩
  obtain ⟨R1, E1, r1⟩ := b1
  split at a1
  · obtain rfl := r1.bl_
    refine ⟨true, rfl, ?_⟩
    refine itT rfl ?_
    exact ⟨ρ1, e1, h1, R1, E1, a1⟩
  · obtain rfl := r1.bl_
    refine ⟨false, rfl, ?_⟩
    refine itF rfl ?_
    exact ⟨ρ1, e1, h1, R1, E1, a1⟩
  · exact a1.elim
end
def aNil : En → Hea → Res (List Val) := fun _ h => .ok [] h
def aCons (f : En → Hea → Res Val) (g : En → Hea → Res (List Val)) : En → Hea → Res (List Val) := fun e h => (f e h).bind fun x h1 => (g e h1).bind fun xs h2 => .ok (x :: xs) h2
/-- *e in a display or a call -/
def itemsOf (h : Hea) : Val → Option (List Val)
  | .tup xs => some xs
  | .lst xs => some xs
  | .ref i => lstAt h i
  | _ => none
section
variable {S : Sy} {W : WX} {σ : St} {H : Hp} {Q : VK}
theorem AftA.bind {ρ : Own} {r : Res (List Val)} {k : List Val → Hea → Res Val} {Q : VK} {W : XK} (a : Aft S ρ H (r.bind k) Q W) :
    AftA S ρ H r (fun v H1 => ∃ ρ1 d h1, Go S ρ H ρ1 H1 ∧ Rel S ρ1 h1 H1 ∧ Reps S ρ1 H1 d v ∧ Aft S ρ1 H1 (k d h1) Q W) W := by
  cases r with
  | ok d h => exact fun ρ1 v H1 s R r => ⟨ρ1, d, h, s, R, r, Aft.later (r := k d h) a s⟩
  | exc c d h => exact a
  | stuck => exact a
theorem AftA.mono {ρ : Own} {r : Res (List Val)} {Q Q' : List V → Hp → Prop} {W : XK} (a : AftA S ρ H r Q W) (h : ∀ v H', Q v H' → Q' v H') : AftA S ρ H r Q' W := by
  cases r with
  | ok d h' => exact fun ρ1 v H1 s R r => h _ _ (a ρ1 v H1 s R r)
  | exc c d h' => exact a
  | stuck => exact a
theorem AftA.later {ρ ρ1 : Own} {H1 : Hp} {r : Res (List Val)} {Q : List V → Hp → Prop} {W : XK} (a : AftA S ρ H r Q W) (s : Go S ρ H ρ1 H1) : AftA S ρ1 H1 r Q W := by
  cases r with
  | ok d h' => exact fun ρ2 v H2 s2 => a ρ2 v H2 (s.trans s2)
  | exc c d h' => exact fun ρ2 v H2 dx s2 => a ρ2 v H2 dx (s.trans s2)
  | stuck => exact a
theorem AftA.bind1 {ρ : Own} {r : Res Val} {k : Val → Hea → Res (List Val)} {Q : List V → Hp → Prop} {W : XK} (a : AftA S ρ H (r.bind k) Q W) :
    Aft S ρ H r (fun v H1 => ∃ ρ1 d h1, Go S ρ H ρ1 H1 ∧ Rel S ρ1 h1 H1 ∧ Rep S ρ1 H1 d v ∧ AftA S ρ1 H1 (k d h1) Q W) W := by
  cases r with
  | ok d h => exact fun ρ1 v H1 s R r => ⟨ρ1, d, h, s, R, r, AftA.later (r := k d h) a s⟩
  | exc c d h => exact a
  | stuck => exact a
theorem AftA.bind2 {ρ : Own} {r : Res (List Val)} {k : List Val → Hea → Res (List Val)} {Q : List V → Hp → Prop} {W : XK} (a : AftA S ρ H (r.bind k) Q W) :
    AftA S ρ H r (fun v H1 => ∃ ρ1 d h1, Go S ρ H ρ1 H1 ∧ Rel S ρ1 h1 H1 ∧ Reps S ρ1 H1 d v ∧ AftA S ρ1 H1 (k d h1) Q W) W := by
  cases r with
  | ok d h => exact fun ρ1 v H1 s R r => ⟨ρ1, d, h, s, R, r, AftA.later (r := k d h) a s⟩
  | exc c d h => exact a
  | stuck => exact a
end
section
variable {T : Tb} {X : Cx} {W : WX} {a : Expr} {es : List Expr} {f : En → Hea → Res Val} {g : En → Hea → Res (List Val)} {pos : Pos}
theorem sa_nil : SA T X W [] aNil := pa_nil.imp fun σ H Q q => by
  obtain ⟨ρ, e, h, R, E, a⟩ := q
  exact a ρ [] H .rfl R .nil
theorem sa_cons (ha : SE T X W a f) (hr : SA T X W es g) (hs : starEach (a :: es) X.env = (false, eval a X.env) :: starEach es X.env := by rfl) : SA T X W (a :: es) (aCons f g) := (pa_cons ha hr hs).imp fun σ H Q q => by
  obtain ⟨ρ, e, h, R, E, a⟩ := q
  refine ⟨ρ, e, h, R, E, (AftA.bind1 a).mono fun v H1 ⟨ρ1, d, h1, s, R1, r, a1⟩ => ⟨ρ1, e, h1, R1, E.go s, (AftA.bind2 a1).mono fun vs H2 ⟨ρ2, ds, h2, s2, R2, r2, a2⟩ => ?_⟩⟩
  exact a2 ρ2 (v :: vs) H2 .rfl R2 (.cons (r.go s2) r2)
theorem items_sq {S : Sy} {ρ : Own} {H : Hp} {h : Hea} {d : Val} {v : V} {ys : List Val} (R : Rel S ρ h H) (r : Rep S ρ H d v) (e : itemsOf h d = some ys) : ∃ p xs, v = .ref p ∧ (StT S.K H p xs ∨ SqL S.K H p xs) ∧ Reps S ρ H ys xs := by
  unfold itemsOf at e
  split at e
  · cases e
    obtain ⟨p, vs, rfl, s, q⟩ := r.tup_
    exact ⟨p, vs, rfl, .inl s, q⟩
  · cases e
    cases r with
    | lst f h1 h2 => exact ⟨_, _, rfl, .inr (.inl (.inl h1)), h2⟩
  · obtain ⟨p, rfl, ea⟩ := r.ref_
    obtain ⟨vs, s, q⟩ := R.lst e ea
    exact ⟨p, vs, rfl, .inr s, q⟩
  · cases e
end
def eTup (g : En → Hea → Res (List Val)) : En → Hea → Res Val := fun e h => (g e h).bind fun xs h1 => if xs.length ≤ 16777216 then .ok (.tup xs) h1 else .stuck
def lDisp (g : En → Hea → Res (List Val)) : En → Hea → Res (List Val) := fun e h => (g e h).bind fun xs h1 => if xs.length ≤ 16777216 then .ok xs h1 else .stuck
/-- a made list is kept -/
def eLst (g : En → Hea → Res (List Val)) : En → Hea → Res Val := fun e h => (g e h).bind fun xs h1 => .ok (.lst xs) h1
/-- .. to be changed -/
def eNew (g : En → Hea → Res (List Val)) : En → Hea → Res Val := fun e h => (g e h).bind fun xs h1 => .ok (.ref h1.length) (h1 ++ [.lst xs])
section
variable {S : Sy} {H : Hp}
theorem AftL.mono {ρ : Own} {r : Res (List Val)} {Q Q' : VK} {W : XK} (a : AftL S ρ H r Q W) (h : ∀ v H', Q v H' → Q' v H') : AftL S ρ H r Q' W := by
  cases r with
  | ok d h' => exact fun ρ1 p v H1 s R e n z r k => h _ _ (a ρ1 p v H1 s R e n z r k)
  | exc c d h' => exact a
  | stuck => exact a
theorem Go.none {ρ ρ1 ρ2 : Own} {H1 H2 : Hp} (s : Go S ρ H ρ1 H1) {p : Addr} (n : Off ρ2 p) (s2 : Go S ρ1 H1 ρ2 H2) (z : H1 p = Option.none) : H p = Option.none := by
  cases e : H p with
  | none => rfl
  | some o =>
    obtain ⟨⟨o', this, _⟩, _⟩ := s.fr p o e fun i w => n i (s2.sub _ _ (s.sub _ _ w))
    rw [z] at this; cases this
theorem Go.adopt {ρ ρ1 : Own} {H1 : Hp} (s : Go S ρ H ρ1 H1) {p : Addr} (z : H p = Option.none) : Go S ρ H (ρ1.add p) H1 := by
  refine ⟨s.sub.trans .app, s.kp, s.fr, fun i a h => ?_, s.hd⟩
  rcases add_some h with h | h
  · exact s.nw i a h
  · subst h
    exact .inr z
theorem AftL.later {ρ ρ1 : Own} {H1 : Hp} {r : Res (List Val)} {Q : VK} {W : XK} (a : AftL S ρ H r Q W) (s : Go S ρ H ρ1 H1) : AftL S ρ1 H1 r Q W := by
  cases r with
  | ok d h' => exact fun ρ2 p v H2 s2 R e n z r k => a ρ2 p v H2 (s.trans s2) R e n (s.none n.1 s2 z) r k
  | exc c d h' => exact fun ρ2 v H2 dx s2 => a ρ2 v H2 dx (s.trans s2)
  | stuck => exact a
/-- behind a made list: another expression goes on with it -/
theorem AftL.bind {ρ : Own} {r : Res (List Val)} {k : List Val → Hea → Res Val} {Q : VK} {W : XK} (a : Aft S ρ H (r.bind k) Q W) :
    AftL S ρ H r (fun v H1 => ∃ ρ1 ds h1 p vs, Go S ρ H ρ1 H1 ∧ Rel S ρ1 h1 H1 ∧ v = .ref p ∧ H1 p = some (.lst vs) ∧ Fz ρ1 p ∧ H p = none ∧ Reps S ρ1 H1 ds vs ∧ Rel S (ρ1.add p) (h1 ++ [.lst ds]) H1 ∧ Aft S ρ H (k ds h1) Q W) W := by
  cases r with
  | ok d h => exact fun ρ1 p v H1 s R e n z r k => ⟨ρ1, d, h, p, v, s, R, rfl, e, n, z, r, k, a⟩
  | exc c d h => exact a
  | stuck => exact a
theorem AftA.bindL {ρ : Own} {r : Res (List Val)} {k : List Val → Hea → Res (List Val)} {Q : VK} {W : XK} (a : AftL S ρ H (r.bind k) Q W) :
    AftA S ρ H r (fun v H1 => ∃ ρ1 d h1, Go S ρ H ρ1 H1 ∧ Rel S ρ1 h1 H1 ∧ Reps S ρ1 H1 d v ∧ AftL S ρ1 H1 (k d h1) Q W) W := by
  cases r with
  | ok d h => exact fun ρ1 v H1 s R r => ⟨ρ1, d, h, s, R, r, AftL.later (r := k d h) a s⟩
  | exc c d h => exact a
  | stuck => exact a
theorem AftL.bind1 {ρ : Own} {r : Res Val} {k : Val → Hea → Res (List Val)} {Q : VK} {W : XK} (a : AftL S ρ H (r.bind k) Q W) :
    Aft S ρ H r (fun v H1 => ∃ ρ1 d h1, Go S ρ H ρ1 H1 ∧ Rel S ρ1 h1 H1 ∧ Rep S ρ1 H1 d v ∧ AftL S ρ1 H1 (k d h1) Q W) W := by
  cases r with
  | ok d h => exact fun ρ1 v H1 s R r => ⟨ρ1, d, h, s, R, r, AftL.later (r := k d h) a s⟩
  | exc c d h => exact a
  | stuck => exact a
/-- a new list that is made now -/
theorem AftL.made {ρ : Own} {h : Hea} {xs : List Val} {vs : List V} {Q : VK} {W : XK} (a : AftL S ρ H (.ok xs h) Q W) (R : Rel S ρ h H) (r : Reps S ρ H xs vs) (p : Addr) (n : H p = none) : Q (.ref p) (upd H p (.lst vs)) :=
  a ρ p vs _ (.side n) (R.side n) upd_same (R.fz n) n (r.mono (.side n)) (R.new n (.lst upd_same (r.mono (.new n))))
end
section
variable {T : Tb} {X : Cx} {W : WX} {a : Expr} {es : List Expr} {f : En → Hea → Res Val} {g : En → Hea → Res (List Val)} {pos : Pos}
theorem se_tup {x1} (h : SA T X W es g) : SE T X W (.Tuple es x1 pos) (eTup g) := (pe_tupS h).imp fun σ H Q q => by
  obtain ⟨ρ, e, h, R, E, a⟩ := q
  refine ⟨ρ, e, h, R, E, (AftA.bind a).mono fun vs H1 ⟨ρ1, ds, h1, s, R1, r, a1⟩ => ?_⟩
  have l := r.length
  split at a1
  · exact ⟨by rw [sizeLine_eq]; omega, a1.tup R1 r⟩
  · exact a1.elim
theorem sl_lst (h : SA T X W es g) : SL T X W (.List es pos) (lDisp g) := (pe_lst h).imp fun σ H Q q => by
  obtain ⟨ρ, e, h, R, E, a⟩ := q
  refine ⟨ρ, e, h, R, E, (AftA.bindL a).mono fun vs H1 ⟨ρ1, ds, h1, s, R1, r, a1⟩ => ?_⟩
  have l := r.length
  split at a1
  · exact ⟨by rw [sizeLine_eq]; omega, fun p n => a1.made R1 r p n⟩
  · exact a1.elim
theorem se_new (h : SL T X W a g) : SE T X W a (eNew g) := h.imp fun σ H Q q => by
  obtain ⟨ρ, e, h, R, E, a⟩ := q
  refine ⟨ρ, e, h, R, E, (AftL.bind a).mono fun v H1 ⟨ρ1, ds, h1, p, vs, s, R1, ev, el, n, z, r, k, a1⟩ => ?_⟩
  subst ev
  exact a1 (ρ1.add p) (.ref p) H1 (s.adopt z) k (.ref (by rw [R1.len]; exact add_at))
theorem se_lst (h : SL T X W a g) : SE T X W a (eLst g) := h.imp fun σ H Q q => by
  obtain ⟨ρ, e, h, R, E, a⟩ := q
  refine ⟨ρ, e, h, R, E, (AftL.bind a).mono fun v H1 ⟨ρ1, ds, h1, p, vs, s, R1, ev, el, n, z, r, k, a1⟩ => ?_⟩
  subst ev
  exact a1 ρ1 (.ref p) H1 s R1 (.lst n el r)
end
end Lad
end
section
set_option maxRecDepth 100000
set_option maxHeartbeats 2000000
namespace Lad
open PySem PySem.Spec PyProof.Rows L2
/-- TyX, or a dict by nested tuples -/
inductive TyZ (P : Program) (w : World) (K : PySem.W.Frag) (H : Hp) : V → Value → Prop where
  | old {x : V} {t : Value} (h : TyX K H x t) : TyZ P w K H x t
  | dN {a : Addr} {ps : List (NestedKey × Addr × V)} (h : Rd H a (dnO P w a ps)) : TyZ P w K H (.ref a) (.type "dict")
section
variable {X : Cx} {pins : List (Addr × Obj)} {σ : L2.St} {H : Hp} {s : Shared}
theorem dn_obj {a : Addr} {ps : List (NestedKey × Addr × V)} (I : Inv X pins σ H s) (h : Rd H a (dnO X.prog X.w a ps)) : ps.length ≤ sizeLine ∧ (a == sysModules) = false ∧
    ∃ xs : List (NestedKey × Addr × Value), Paired (fun (p : NestedKey × Addr × V) (q : NestedKey × Addr × Value) => p.1 = q.1 ∧ p.2.1 = q.2.1 ∧ RelV p.2.2 q.2.2) ps xs ∧
      ∃ o es ep, s.heap.get? a = some o ∧ o.ExactDict ∧ o.data = .dict es ep ∧ es.toList = xs.map (entryOfKey (nestedKind X.prog X.w)) ∧ (xs.map (·.1)).Nodup := by
  have q := h.ok I.hok
  unfold dnO at q
  exact q.1
theorem kit_ofZ {x : V} {u t : Value} (I : Inv X pins σ H s) (rx : RelV x u) (ty : TyZ X.prog X.w X.K H x t) : ∃ P : Heap → Prop, PySem.W.KitX X.K u t P ∧ P s.heap ∧ u ≠ .builtin "__main__.__loader__#opaque" := by
  cases ty with
  | old k => exact kit_of I rx k
  | @dN a ps k =>
    obtain rfl : u = Value.ref a := rx
    obtain ⟨_, _, xs, _, o, es, ep, e1, e2, _⟩ := dn_obj I k
    exact ⟨_, PySem.W.kitx_dict, ⟨o, e1, e2.1⟩, fun z => by cases z⟩
/-- isinstance(x, c) -/
def rIsZ (P : Program) (w : World) (K : PySem.W.Frag) : List V → Hp → VK → Prop := fun xs H Q => ∃ (x c : V) (t u : Value) (b : Bool), xs = [x, c] ∧ ClsV c u ∧ TyZ P w K H x t ∧ PySem.W.kitOne K t u = some b ∧ Q (.bl b) H
/-- isinstance(x, (c1, ..)) -/
def rIsTZ (P : Program) (w : World) (K : PySem.W.Frag) : List V → Hp → VK → Prop := fun xs H Q => ∃ (x : V) (p : Addr) (cs : List V) (t : Value) (us : List Value) (b : Bool), xs = [x, .ref p] ∧ H p = some (.tup cs) ∧ Paired ClsV cs us ∧ TyZ P w K H x t ∧ PySem.W.kitAny K t us = some b ∧ Q (.bl b) H
theorem call_isZ : CallR X (.builtin "isinstance") (rIsZ X.prog X.w X.K) := by
  rintro pins s σ H xs us Q I r ⟨x, c, t, u, b, rfl, cl, tz, ek, fin⟩
  obtain ⟨v1, v2, rfl, ra, rb⟩ := vals2 r
  obtain rfl := cl.eq rb
  obtain ⟨P, kx, px, nx⟩ := kit_ofZ I ra tz
  exact PySem.W.kia_one kx I.kIn px ek nx fun tk => ⟨.bl b, H, I.tok tk, Eq.refl _, fin⟩
theorem call_isTZ : CallR X (.builtin "isinstance") (rIsTZ X.prog X.w X.K) := by
  rintro pins s σ H xs us Q I r ⟨x, p, cs, t, ws, b, rfl, ht, cl, tz, ek, fin⟩
  obtain ⟨v1, v2, rfl, ra, rb⟩ := vals2 r
  obtain rfl : v2 = Value.ref p := rb
  obtain ⟨P, kx, px, nx⟩ := kit_ofZ I ra tz
  obtain ⟨_, its, rv, ob, g1, g2, n, g3⟩ := (show ObjOk X.prog X.w H s.heap p (.tup cs) from I.hok p _ ht)
  obtain rfl := ClsV.all cl rv
  cases ob
  dsimp only at g2 g3
  subst g2 g3
  exact PySem.W.kia_tup kx I.kIn px g1 ek nx fun tk => ⟨.bl b, H, I.tok tk, Eq.refl _, fin⟩
end
end Lad
end
section
set_option maxRecDepth 100000
set_option maxHeartbeats 1000000
namespace Lad
open PySem L2
def rC (S : Sy) (g : Hea → List Val → Option Val) : List V → Hp → VK → Prop := fun vs H Q => ∃ ρ h ds, Rel S ρ h H ∧ Reps S ρ H ds vs ∧ Aft S ρ H (opt (g h ds) h) Q (fun _ _ _ => False)
/-- of one list or tuple, by its items -/
def rIt (S : Sy) (g : List Val → Option Val) : List V → Hp → VK → Prop := fun vs H Q => ∃ ρ h xs us p, Rel S ρ h H ∧ vs = [.ref p] ∧ (SqL S.K H p us ∨ StT S.K H p us) ∧ Reps S ρ H xs us ∧ Aft S ρ H (opt (g xs) h) Q (fun _ _ _ => False)
/-- of one list -/
def rIl (S : Sy) (g : List Val → Option Val) : List V → Hp → VK → Prop := fun vs H Q => ∃ ρ h xs us p, Rel S ρ h H ∧ vs = [.ref p] ∧ SqL S.K H p us ∧ Reps S ρ H xs us ∧ Aft S ρ H (opt (g xs) h) Q (fun _ _ _ => False)
def eCB (g : Hea → List Val → Option Val) (as : En → Hea → Res (List Val)) : En → Hea → Res Val := fun e h => (as e h).bind fun ds h1 => opt (g h1 ds) h1
/-- the argument is a value -/
def eIt (g : List Val → Option Val) (f : En → Hea → Res Val) : En → Hea → Res Val := fun e h => (f e h).bind fun d h1 => match itemsOf h1 d with
  | some xs => opt (g xs) h1
  | none => .stuck
/-- the argument is a list made for it -/
def eItL (g : List Val → Option Val) (f : En → Hea → Res (List Val)) : En → Hea → Res Val := fun e h => (f e h).bind fun xs h1 => opt (g xs) h1
theorem CallR.imp {X : Cx} {f : Value} {r r' : List V → Hp → VK → Prop} (p : CallR X f r) (h : ∀ vs H Q, r' vs H Q → r vs H Q) : CallR X f r' := fun pins s σ H vs us Q I rx q => p pins s σ H vs us Q I rx (h vs H Q q)
section
variable {T : Tb} {X : Cx} {W : WX} {a : Expr} {es : List Expr} {f : En → Hea → Res Val} {g : En → Hea → Res (List Val)} {pos : Pos}
theorem cb_imp {r : Hea → List Val → Option Val} {σ : St} {H : Hp} {Q : VK} (q : tE (sy T X) W (eCB r g) σ H Q) : tCB (rC (sy T X) r) (tA (sy T X) W g) σ H Q := by
  obtain ⟨ρ, e, h, R, E, a⟩ := q
  exact ⟨ρ, e, h, R, E, (AftA.bind a).mono fun vs H1 ⟨ρ1, ds, h1, s, R1, r1, a1⟩ => ⟨ρ1, h1, ds, R1, r1, a1.noW⟩⟩
theorem it_imp {r : List Val → Option Val} {σ : St} {H : Hp} {Q : VK} (q : tE (sy T X) W (eIt r f) σ H Q) : tCB (rIt (sy T X) r) (tCons (tE (sy T X) W f) tNil) σ H Q := by
  obtain ⟨ρ, e, h, R, E, a⟩ := q
  refine ⟨ρ, e, h, R, E, a.bind.mono fun v H1 ⟨ρ1, d, h1, s, R1, r1, a1⟩ => ?_⟩
  split at a1
  · rename_i xs hx
    obtain ⟨p, us, rfl, sq, rr⟩ := items_sq R1 r1 hx
    exact ⟨ρ1, h1, xs, us, p, R1, rfl, sq.symm, rr, a1.noW⟩
  · exact a1.elim
theorem ilL_imp {r : List Val → Option Val} {σ : St} {H : Hp} {Q : VK} (q : tE (sy T X) W (eItL r g) σ H Q) : tCB (rIl (sy T X) r) (tCons (tL (sy T X) W g) tNil) σ H Q := by
  obtain ⟨ρ, e, h, R, E, a⟩ := q
  refine ⟨ρ, e, h, R, E, (AftL.bind a).mono fun v H1 ⟨ρ1, ds, h1, p, vs, s, R1, ev, el, n, z, r1, _, a1⟩ => ?_⟩
  subst ev
  exact ⟨ρ1, h1, ds, vs, p, R1, rfl, .inl (.inl el), r1, (a1.later s).noW⟩
end
def bls? : List Val → Option (List Bool)
  | [] => some []
  | .bl i :: xs => (bls? xs).map (i :: ·)
  | _ => none
theorem bls_eq : ∀ {xs : List Val} {ns : List Bool}, bls? xs = some ns → xs = ns.map Val.bl
  | [], ns, e => by cases e; rfl
  | .bl i :: xs, ns, e => by
    simp only [bls?] at e
    cases q : bls? xs with
    | none => rw [q] at e; cases e
    | some ms => rw [q] at e; cases e; rw [bls_eq q]; rfl
  | .non :: _, _, e => by cases e
  | .int _ :: _, _, e => by cases e
  | .str _ :: _, _, e => by cases e
  | .tup _ :: _, _, e => by cases e
  | .ref _ :: _, _, e => by cases e
  | .exn _ _ :: _, _, e => by cases e
  | .lst _ :: _, _, e => by cases e
  | .dic _ _ _ :: _, _, e => by cases e
  | .obj _ _ _ :: _, _, e => by cases e
theorem Reps.bls {S : Sy} {ρ : Own} {H : Hp} : ∀ {ns : List Bool} {vs : List V}, Reps S ρ H (ns.map Val.bl) vs → vs = ns.map V.bl
  | [], _, .nil => rfl
  | n :: ns, _, .cons r t => by
    cases r
    rw [Reps.bls t]
    rfl
def gLen (xs : List Val) : Option Val := some (.int xs.length)
def gAll (xs : List Val) : Option Val := (bls? xs).map fun bs => .bl (bs.all id)
def gTuple (xs : List Val) : Option Val := some (.tup xs)
def gMax2 : Hea → List Val → Option Val
  | _, [.int i, .int j] => some (.int (if j > i then j else i))
  | _, _ => none
def gMin2 : Hea → List Val → Option Val
  | _, [.int i, .int j] => some (.int (if j < i then j else i))
  | _, _ => none
def gInt : Hea → List Val → Option Val
  | _, [.int i] => some (.int i)
  | _, [.bl k] => some (.int (if k then 1 else 0))
  | _, _ => none
section
variable {T : Tb} {X : Cx}
theorem g_len : CallR X (.builtin "len") (rIt (sy T X) gLen) := CallR.imp call_len_seq fun vs H Q h => by
  obtain ⟨ρ, h, xs, us, p, R, rfl, sq, r, a⟩ := h
  refine ⟨p, us, rfl, sq.imp id StT.sq, ?_⟩
  rw [← r.length]
  exact a.same R (.int _)
theorem g_all (hc : X.calm = true) : CallR X (.builtin "all") (rIl (sy T X) gAll) := CallR.imp (cr_all hc) fun vs H Q h => by
  obtain ⟨ρ, h, xs, us, p, R, rfl, sq, r, a⟩ := h
  unfold gAll at a
  cases e : bls? xs with
  | none => rw [e] at a; exact a.elim
  | some bs =>
    rw [e] at a
    obtain rfl := bls_eq e
    obtain rfl := r.bls
    exact ⟨p, bs, rfl, sq, Aft.same (d := .bl _) a R (.bl _)⟩
theorem g_tuple : CallR X (.type "tuple") (rIt (sy T X) gTuple) := CallR.imp call_tupleS fun vs H Q h => by
  obtain ⟨ρ, h, xs, us, p, R, rfl, sq, r, a⟩ := h
  refine ⟨p, us, rfl, ?_⟩
  rcases sq with sq | sq
  · exact .inl ⟨sq, Aft.tup a R r⟩
  · exact .inr ⟨sq.sq, Aft.same a R (.tup sq r)⟩
theorem g_max2 (hc : X.calm = true) : CallR X (.builtin "max") (rC (sy T X) gMax2) := CallR.imp (call_max2 hc) fun vs H Q h => by
  obtain ⟨ρ, h, ds, R, r, a⟩ := h
  unfold gMax2 at a
  split at a
  · obtain rfl := Reps.ints (ns := [_, _]) r
    exact ⟨_, _, rfl, Aft.same (d := .int _) a R (.int _)⟩
  · exact a.elim
theorem g_min2 (hc : X.calm = true) : CallR X (.builtin "min") (rC (sy T X) gMin2) := CallR.imp (call_min2 hc) fun vs H Q h => by
  obtain ⟨ρ, h, ds, R, r, a⟩ := h
  unfold gMin2 at a
  split at a
  · obtain rfl := Reps.ints (ns := [_, _]) r
    exact ⟨_, _, rfl, Aft.same (d := .int _) a R (.int _)⟩
  · exact a.elim
theorem g_int : CallR X (.type "int") (rC (sy T X) gInt) := CallR.imp call_int1 fun vs H Q h => by
  obtain ⟨ρ, h, ds, R, r, a⟩ := h
  unfold gInt at a
  split at a
  · obtain rfl := Reps.ints (ns := [_]) r
    exact .inl ⟨_, rfl, Aft.same (d := .int _) a R (.int _)⟩
  · obtain rfl := Reps.bls (ns := [_]) r
    exact .inr ⟨_, rfl, Aft.same (d := .int _) a R (.int _)⟩
  · exact a.elim
end
inductive BT where
  | int | bool | str | tuple | list | dict
def BT.nm : BT → String
  | .int => "int" | .bool => "bool" | .str => "str" | .tuple => "tuple" | .list => "list" | .dict => "dict"
inductive TK where
  | non | bool | int | str | tuple | list | dict
def TK.nm : TK → String
  | .non => "NoneType" | .bool => "bool" | .int => "int" | .str => "str" | .tuple => "tuple" | .list => "list" | .dict => "dict"
def isTB : TK → BT → Bool
  | .bool, .bool | .bool, .int | .int, .int | .str, .str | .tuple, .tuple | .list, .list | .dict, .dict => true
  | _, _ => false
theorem kit_tb (k : TK) (b : BT) : kitB k.nm b.nm = some (isTB k b) := by
  cases k <;> cases b <;> decide +kernel
def tyK (h : Hea) : Val → Option TK
  | .non => some .non
  | .bl _ => some .bool
  | .int _ => some .int
  | .str _ => some .str
  | .tup _ => some .tuple
  | .lst _ => some .list
  | .dic _ _ _ => some .dict
  | .obj _ _ _ => none
  | .ref i => match h[i]? with
    | some (.lst _) => some .list
    | some (.fro _) => some .list
    | some (.dcK _) => some .dict
    | some (.dcT _) => some .dict
    | some (.dcL _) => some .dict
    | some (.dcM _) => some .dict
    | _ => none
  | .exn _ _ => none
theorem tyK_ok {S : Sy} {ρ : Own} {H : Hp} {h : Hea} {d : Val} {v : V} {k : TK} (R : Rel S ρ h H) (r : Rep S ρ H d v) (e : tyK h d = some k) : TyZ S.P S.w S.K H v (.type k.nm) := by
  cases r with
  | non => cases e; exact .old <| .base .non
  | bl b => cases e; exact .old <| .base (.bl b)
  | int b => cases e; exact .old <| .base (.int b)
  | str b => cases e; exact .old <| .base (.str b)
  | tup s q =>
    cases e
    rcases s with ⟨o, s, _⟩ | ⟨o, its, n, s, c, _⟩
    · exact .old <| .fTuple s
    · exact .old <| .kTuple s c
  | lst f h1 h2 => cases e; exact .old <| .base (.lst h1)
  | dicK f h1 _ _ _ => cases e; exact .old (by rcases h1 with h | ⟨o, h⟩; exact .base (.dK h); exact .fDict h)
  | dicT f h1 => cases e; exact .dN h1
  | obj => cases e
  | ref ea =>
    unfold tyK at e
    dsimp only at e
    split at e
    · rename_i xs hx
      cases e
      have o := R.ob _ _ _ hx ea
      cases o with
      | lst h1 h2 => exact .old <| .base (.lst h1)
    · rename_i xs hx
      cases e
      have o := R.ob _ _ _ hx ea
      cases o with
      | fro h1 => exact .old <| .base (.frz h1)
    · rename_i xs hx
      cases e
      have o := R.ob _ _ _ hx ea
      cases o with
      | dcK h1 h2 => exact .old <| .base (.dK h1)
    · rename_i xs hx
      cases e
      have o := R.ob _ _ _ hx ea
      cases o with
      | dcT h1 h2 => exact .dN (.inl h1)
    · rename_i xs hx
      cases e
      have o := R.ob _ _ _ hx ea
      cases o with
      | dcL h1 h2 => exact .old <| .fDict h1
    · rename_i xs hx
      cases e
      have o := R.ob _ _ _ hx ea
      cases o with
      | dcM h1 h2 => exact .dN (.inr ⟨_, h1⟩)
    · cases e
  | exn h1 h2 r => cases e
def oIsi (ts : List BT) (h : Hea) (d : Val) : Option Val := (tyK h d).map fun k => .bl (ts.any (isTB k))
section
variable {T : Tb} {X : Cx} {W : WX} {a : Expr} {f : En → Hea → Res Val} {pos p p1 p2 p3 : Pos}
theorem se_isi {b : BT} {x : Str} (hg : Gl X "isinstance") (hm : X.mg "isinstance" = none) (ha : SE T X W a f) (hb : PE X (.Name x p1) (tC (.ty b.nm))) (hs : starEach (a :: [.Name x p1]) X.env = (false, eval a X.env) :: starEach [.Name x p1] X.env := by rfl) :
    SE T X W (.Call (.Name "isinstance" p) [a, .Name x p1] [] pos) (eUn (oIsi [b]) f) := by
  refine PE.imp (pe_callB call_isZ hg hm (by decide +kernel) (pa_cons ha (pa_cons hb pa_nil) hs) (he := hs)) fun σ H Q q => ?_
  obtain ⟨ρ, e, h, R, E, a⟩ := tE.bind (f := f) (g := fun e x h1 => opt (oIsi [b] h1 x) h1) q
  refine ⟨ρ, e, h, R, E, a.mono fun v H1 ⟨ρ1, e1, d1, h1, b1, a1⟩ => ?_⟩
  obtain ⟨R1, E1, r1⟩ := b1
  show rIsZ X.prog X.w X.K [v, .ty b.nm] H1 Q
  unfold oIsi at a1
  cases hk : tyK h1 d1 with
  | none => rw [hk] at a1; exact a1.elim
  | some k =>
    rw [hk] at a1
    refine ⟨v, _, _, _, isTB k b, rfl, .ty _, tyK_ok R1 r1 hk, kit_ty (kit_tb k b), ?_⟩
    have q := Aft.same (d := .bl _) a1 R1 (.bl _)
    simpa using q
theorem kitAny_tb {K : PySem.W.Frag} (k : TK) : ∀ bs : List BT, PySem.W.kitAny K (.type k.nm) (bs.map fun b => Value.type b.nm) = some (bs.any (isTB k))
  | [] => rfl
  | b :: bs => by
    have h := kit_ty (K := K) (kit_tb k b)
    simp only [List.map_cons, PySem.W.kitAny, h, List.any_cons]
    cases isTB k b with
    | true => rfl
    | false => simpa using kitAny_tb k bs
/-- isinstance(x, (A, B)) -/
theorem se_isi2 {b c : BT} {x y : Str} {x1} (hg : Gl X "isinstance") (hm : X.mg "isinstance" = none) (ha : SE T X W a f) (hb : PE X (.Name x p1) (tC (.ty b.nm))) (hc : PE X (.Name y p2) (tC (.ty c.nm)))
    (hs : starEach (a :: [.Tuple [.Name x p1, .Name y p2] x1 p3]) X.env = (false, eval a X.env) :: starEach [.Tuple [.Name x p1, .Name y p2] x1 p3] X.env := by rfl) :
    SE T X W (.Call (.Name "isinstance" p) [a, .Tuple [.Name x p1, .Name y p2] x1 p3] [] pos) (eUn (oIsi [b, c]) f) := by
  refine PE.imp (pe_callB call_isTZ hg hm (by decide +kernel) (pa_cons ha (pa_cons (pe_tup (pa_cons hb (pa_cons hc pa_nil))) pa_nil) hs) (he := hs)) fun σ H Q q => ?_
  obtain ⟨ρ, e, h, R, E, a⟩ := tE.bind (f := f) (g := fun e x h1 => opt (oIsi [b, c] h1 x) h1) q
  refine ⟨ρ, e, h, R, E, a.mono fun v H1 ⟨ρ1, e1, d1, h1, b1, a1⟩ => ?_⟩
  obtain ⟨R1, E1, r1⟩ := b1
  refine ⟨by rw [sizeLine_eq]; exact (by decide : 2 ≤ 16777216), fun tp n => ?_⟩
  show rIsTZ X.prog X.w X.K [v, .ref tp] _ Q
  unfold oIsi at a1
  cases hk : tyK h1 d1 with
  | none => rw [hk] at a1; exact a1.elim
  | some k =>
    rw [hk] at a1
    have kp : Mv (sy T X) ρ1 H1 ρ1 (upd H1 tp (.tup [.ty b.nm, .ty c.nm])) := .side n
    refine ⟨v, tp, [.ty b.nm, .ty c.nm], _, [b, c].map fun b => Value.type b.nm, [b, c].any (isTB k), rfl, upd_same, .cons (.ty _) (.cons (.ty _) .nil), tyK_ok (R1.side n) (r1.mono kp) hk, kitAny_tb k _, ?_⟩
    exact a1 ρ1 _ _ (.side n) (R1.side n) (.bl _)
end
def oIx (h : Hea) (a b : Val) : Option Val := match b with
  | .int i => match itemsOf h a with
    | some xs => atI xs i
    | none => match a with
      | .str z => if z.length ≤ 16777216 then (atI z.cps.toList i).map fun c => .str ⟨#[c]⟩ else none
      | _ => none
  | _ => none
theorem Reps.atI {S : Sy} {ρ : Own} {H : Hp} {xs : List Val} {vs : List V} {i : Int} {d : Val} (r : Reps S ρ H xs vs) (e : atI xs i = some d) : ∃ v, L2.atI vs i = some v ∧ Rep S ρ H d v := by
  unfold L2.atI at e ⊢
  rw [← r.length]
  cases q : ixN xs.length i with
  | none => rw [q] at e; cases e
  | some j =>
    rw [q] at e
    exact r.get e
section
variable {T : Tb} {X : Cx} {W : WX} {a b : Expr} {f1 f2 : En → Hea → Res Val} {pos p p1 p2 p3 : Pos}
theorem IxR.imp {r r' : R2} (p : IxR X r) (h : ∀ x y H Q, r' x y H Q → r x y H Q) : IxR X r' := fun value slice pins s σ H x y v u Q I rx ry q e => p value slice pins s σ H x y v u Q I rx ry (h x y H Q q) e
theorem o_ix : IxR X (rB (sy T X) oIx) := IxR.imp (IxR.or ix_list (IxR.or ix_tup ix_str)) fun x y H Q h => by
  obtain ⟨ρ, h, d1, d2, R, r1, r2, a⟩ := h
  cases d2 with
  | int i =>
    obtain rfl := r2.int_
    simp only [oIx] at a
    cases hx : itemsOf h d1 with
    | some xs =>
      rw [hx] at a
      obtain ⟨p, us, rfl, sq, rr⟩ := items_sq R r1 hx
      cases e : L2.atI xs i with
      | none => simp only [e] at a; exact a.elim
      | some d =>
        simp only [e] at a
        obtain ⟨v, e1, r⟩ := rr.atI e
        rcases sq with sq | sq
        · exact .inr (.inl ⟨p, us, i, v, rfl, rfl, sq.sq, e1, Aft.same (d := d) a R r⟩)
        · exact .inl ⟨p, us, i, v, rfl, rfl, sq, e1, Aft.same (d := d) a R r⟩
    | none =>
      rw [hx] at a
      cases d1 with
      | str z =>
        obtain rfl := r1.str_
        simp only at a
        split at a
        · rename_i hz
          cases e : L2.atI z.cps.toList i with
          | none => rw [e] at a; exact a.elim
          | some c =>
            rw [e] at a
            exact .inr (.inr ⟨z, i, c, rfl, rfl, by rw [sizeLine_eq]; exact hz, e, Aft.same (d := .str _) a R (.str _)⟩)
        · exact a.elim
      | _ => exact a.elim
  | _ => exact a.elim
theorem se_ix (ha : SE T X W a f1) (hb : SE T X W b f2) (hs : PlainIx b := by intro _ _; rfl) : SE T X W (.Subscript a b pos) (eBin oIx f1 f2) := (pe_ix o_ix ha hb hs).imp fun σ H Q q => bin_imp q
end
end Lad
end
section
set_option maxRecDepth 100000
set_option maxHeartbeats 1000000
namespace Lad
open PySem L2
abbrev SSt (T : Tb) (X : Cx) (W : WX) (s : Stmt) (f : En → Hea → SRes) : Prop := PS X s (tS (sy T X) W f)
abbrev SSs (T : Tb) (X : Cx) (W : WX) (s : List Stmt) (f : En → Hea → SRes) : Prop := PSs X s (tS (sy T X) W f)
def ofR {α : Type} (r : Res α) (e : En) (k : α → Hea → SRes) : SRes := match r with
  | .ok a h => k a h
  | .exc c d h => .exc c d e h
  | .stuck => .stuck
section
variable {S : Sy} {W : WX} {H : Hp} {D : Ends} {ρ : Own} {σ : St} {e : En}
theorem AftS.ofR {r : Res Val} {k : Val → Hea → SRes} (a : AftS S ρ H (ofR r e k) D W) (E : ER S ρ H e σ) :
    Aft S ρ H r (fun v H1 => ∃ ρ1 d h1, Go S ρ H ρ1 H1 ∧ Rel S ρ1 h1 H1 ∧ Rep S ρ1 H1 d v ∧ ER S ρ1 H1 e σ ∧ AftS S ρ1 H1 (k d h1) D W) (fun c d H' => W c d σ H') := by
  cases r with
  | ok d h => exact fun ρ1 v H1 s R r => ⟨ρ1, d, h, s, R, r, E.go s, AftS.later (r := k d h) a s⟩
  | exc c d h => exact fun ρ1 v H1 dx s R r x => a ρ1 v σ H1 dx s R r (E.go s) x
  | stuck => exact a
theorem AftS.ofA {r : Res (List Val)} {k : List Val → Hea → SRes} (a : AftS S ρ H (Lad.ofR r e k) D W) (E : ER S ρ H e σ) :
    AftA S ρ H r (fun v H1 => ∃ ρ1 d h1, Go S ρ H ρ1 H1 ∧ Rel S ρ1 h1 H1 ∧ Reps S ρ1 H1 d v ∧ ER S ρ1 H1 e σ ∧ AftS S ρ1 H1 (k d h1) D W) (fun c d H' => W c d σ H') := by
  cases r with
  | ok d h => exact fun ρ1 v H1 s R r => ⟨ρ1, d, h, s, R, r, E.go s, AftS.later (r := k d h) a s⟩
  | exc c d h => exact fun ρ1 v H1 dx s R r x => a ρ1 v σ H1 dx s R r (E.go s) x
  | stuck => exact a
end
def sNil : En → Hea → SRes := fun e h => .nx e h
def sSeq (f g : En → Hea → SRes) : En → Hea → SRes := fun e h => match f e h with
  | .nx e1 h1 => g e1 h1
  | r => r
def sSet (i : Nat) (f : En → Hea → Res Val) : En → Hea → SRes := fun e h => ofR (f e h) e fun d h1 => .nx (e.set i (some d)) h1
def sRet (f : En → Hea → Res Val) : En → Hea → SRes := fun e h => ofR (f e h) e fun d h1 => .rt d h1
def sRetN : En → Hea → SRes := fun _ h => .rt .non h
def sEx (f : En → Hea → Res Val) : En → Hea → SRes := fun e h => ofR (f e h) e fun _ h1 => .nx e h1
def sIf (f : En → Hea → Res Val) (s1 s2 : En → Hea → SRes) : En → Hea → SRes := fun e h => ofR (f e h) e fun d h1 => match d with
  | .bl true => s1 e h1
  | .bl false => s2 e h1
  | _ => .stuck
/-- targets -/
def gN (i : Nat) : Val → En → Option En := fun v e => some (e.set i (some v))
def setAll : List Nat → List Val → En → Option En
  | [], [], e => some e
  | i :: is, v :: vs, e => setAll is vs (e.set i (some v))
  | _, _, _ => none
def gT (is : List Nat) : Val → En → Option En := fun v e => match v with
  | .tup xs => setAll is xs e
  | _ => none
def sAsg (g : Val → En → Option En) (f : En → Hea → Res Val) : En → Hea → SRes := fun e h => ofR (f e h) e fun d h1 => match g d e with
  | some e1 => .nx e1 h1
  | none => .stuck
/-- a, b, .. = x, y, ..: a display -/
def sPar (is : List Nat) (f : En → Hea → Res (List Val)) : En → Hea → SRes := fun e h => ofR (f e h) e fun ds h1 => match setAll is ds e with
  | some e1 => .nx e1 h1
  | none => .stuck
/-- targets by HandS's readings -/
def GOk (S : Sy) (vs : List Nat) (g : TG) (b : Val → En → Option En) : Prop :=
  ∀ (ρ : Own) (H : Hp) (h : Hea) (e : En) (σ : St) (d : Val) (v : V) (e' : En) (Q : St → Hp → Prop), Rel S ρ h H → ER S ρ H e σ → Rep S ρ H d v → b d e = some e' → (∀ σ', ER S ρ H e' σ' → wipe σ' vs = wipe σ vs → Q σ' H) → g v σ H Q
theorem wipe_set {σ : St} {i : Nat} {o : Option V} : ∀ {vs : List Nat}, i ∈ vs → wipe (σ.set i o) vs = wipe σ vs
  | v :: vs, h => by
    unfold wipe
    by_cases hm : i ∈ vs
    · rw [wipe_set hm]
    · have e : i = v := by
        rcases List.mem_cons.mp h with z | z
        · exact z
        · exact absurd z hm
      subst e
      have key : ∀ ws : List Nat, i ∉ ws → (wipe (σ.set i o) ws).set i none = (wipe σ ws).set i none := by
        intro ws
        induction ws with
        | nil => intro _; show (σ.set i o).set i none = σ.set i none; rw [List.set_set]
        | cons w ws ih =>
          intro hw
          have h1 : i ≠ w := fun z => hw (by rw [z]; exact List.mem_cons_self)
          have h2 : i ∉ ws := fun z => hw (List.mem_cons_of_mem _ z)
          show ((wipe (σ.set i o) ws).set w none).set i none = ((wipe σ ws).set w none).set i none
          rw [List.set_comm _ _ (Ne.symm h1), ih h2, List.set_comm _ _ h1]
      exact key vs hm
theorem gok_name {S : Sy} {i : Nat} {vs : List Nat} (hi : i ∈ vs) : GOk S vs (gName i) (gN i) := fun ρ H h e σ d v e' Q R E r b q => by
  cases b
  exact q _ (E.set r i) (wipe_set hi)
def gsNames : List Nat → TGs
  | [] => gNil
  | i :: is => gCons (gName i) (gsNames is)
theorem gs_names {S : Sy} {ρ : Own} {H : Hp} {vs : List Nat} : ∀ (is : List Nat) (e : En) (σ : St) (ds : List Val) (us : List V) (e' : En) (Q : St → Hp → Prop), (∀ i ∈ is, i ∈ vs) → ER S ρ H e σ → Reps S ρ H ds us → setAll is ds e = some e' → (∀ σ', ER S ρ H e' σ' → wipe σ' vs = wipe σ vs → Q σ' H) → gsNames is us σ H Q
  | [], e, σ, [], [], e', Q, _, E, .nil, b, q => by cases b; exact ⟨rfl, q _ E rfl⟩
  | [], e, σ, d :: ds, u :: us, e', Q, _, E, .cons _ _, b, q => by cases b
  | i :: is, e, σ, [], [], e', Q, _, E, .nil, b, q => by cases b
  | i :: is, e, σ, d :: ds, u :: us, e', Q, hv, E, .cons r t, b, q => by
    refine ⟨u, us, rfl, ?_⟩
    refine gs_names is _ _ ds us e' Q (fun j hj => hv j (List.mem_cons_of_mem _ hj)) (E.set r i) t b fun σ' E' w => q σ' E' ?_
    rw [w, wipe_set (hv i List.mem_cons_self)]
theorem setAll_len : ∀ {is : List Nat} {ds : List Val} {e e' : En}, setAll is ds e = some e' → ds.length = is.length
  | [], [], _, _, _ => rfl
  | _ :: is, _ :: ds, _, _, h => congrArg (· + 1) (setAll_len (is := is) h)
  | [], _ :: _, _, _, h => by cases h
  | _ :: _, [], _, _, h => by cases h
theorem gok_tup {S : Sy} {is vs : List Nat} (hi : ∀ i ∈ is, i ∈ vs) : GOk S vs (gTup S.K is.length (gsNames is)) (gT is) := fun ρ H h e σ d v e' Q R E r b q => by
  unfold gT at b
  split at b
  · obtain ⟨a, us, rfl, sq, rr⟩ := r.tup_
    refine ⟨a, us, rfl, sq.sq, ?_, gs_names is e σ _ us e' Q hi E rr b q⟩
    rw [← rr.length]
    exact setAll_len b
  · cases b
section
variable {T : Tb} {X : Cx} {W : WX} {a b c : Expr} {f : En → Hea → Res Val} {s : Stmt} {ss s1 s2 : List Stmt} {g g1 g2 : En → Hea → SRes} {pos : Pos}
theorem ss_nil : SSs T X W [] sNil := pss_nil.imp fun D σ H q => by
  obtain ⟨ρ, e, h, R, E, a⟩ := q
  exact a ρ σ H .rfl R E
theorem ss_one (h : SSt T X W s g) : SSs T X W [s] g := pss_one h
theorem ss_cons (h1 : SSt T X W s g1) (h2 : SSs T X W ss g2) : SSs T X W (s :: ss) (sSeq g1 g2) := (pss_cons h1 h2).imp fun D σ H q => by
  obtain ⟨ρ, e, h, R, E, a⟩ := q
  refine ⟨ρ, e, h, R, E, ?_⟩
  unfold sSeq at a
  revert a
  cases g1 e h with
  | nx e1 h1 => exact fun a ρ1 σ1 H1 s R1 E1 => ⟨ρ1, e1, h1, R1, E1, AftS.later (r := g2 e1 h1) a s⟩
  | rt v h1 => exact id
  | bk e1 h1 => exact id
  | ct e1 h1 => exact id
  | exc c d e1 h1 => exact id
  | stuck => exact id
theorem st_set {i : Nat} {x : Str} {pos' : Pos} (hN : X.N.Nodup) (hi : X.N[i]? = some x) (hx : Loc X.env.scope x) (ha : SE T X W a f) (hs : swapsWith a (some (.Name x pos')) pos.line X.env = pure false := by rfl)
    (hf : X.fn x = true ∨ X.env.scope.names.lookup x = some .local := by first | exact .inl rfl | exact .inr rfl) : SSt T X W (.Assign [.Name x pos'] a pos) (sSet i f) := (ps_set hN hi hx ha hs hf).imp fun D σ H q => by
  obtain ⟨ρ, e, h, R, E, a⟩ := q
  exact ⟨ρ, e, h, R, E, (a.ofR E).mono fun v H1 ⟨ρ1, d, h1, s, R1, r, E1, a1⟩ => a1 ρ1 _ H1 .rfl R1 (E1.set r i)⟩
theorem st_ret (ha : SE T X W a f) : SSt T X W (.Return (some a) pos) (sRet f) := (ps_ret ha).imp fun D σ H q => by
  obtain ⟨ρ, e, h, R, E, a⟩ := q
  exact ⟨ρ, e, h, R, E, (a.ofR E).mono fun v H1 ⟨ρ1, d, h1, s, R1, r, E1, a1⟩ => a1 ρ1 _ H1 .rfl R1 r⟩
theorem st_retN : SSt T X W (.Return none pos) sRetN := ps_retN.imp fun D σ H q => by
  obtain ⟨ρ, e, h, R, E, a⟩ := q
  exact a ρ _ H .rfl R .non
theorem st_ex (ha : SE T X W a f) (hs : swapsWith a none pos.line X.env = pure false := by rfl) : SSt T X W (.Expr a pos) (sEx f) := (ps_expr ha hs).imp fun D σ H q => by
  obtain ⟨ρ, e, h, R, E, a⟩ := q
  exact ⟨ρ, e, h, R, E, (a.ofR E).mono fun v H1 ⟨ρ1, d, h1, s, R1, r, E1, a1⟩ => a1 ρ1 _ H1 .rfl R1 E1⟩
theorem st_if (hc : ST T X W c f) (h1 : SSs T X W s1 g1) (h2 : SSs T X W s2 g2) : SSt T X W (.If c s1 s2 pos) (sIf f g1 g2) := (ps_if hc h1 h2).imp fun D σ H q => by
  obtain ⟨ρ, e, h, R, E, a⟩ := q
  refine ⟨ρ, e, h, R, E, (a.ofR E).mono fun v H1 ⟨ρ1, d, h1, s, R1, r, E1, a1⟩ => ?_⟩
  split at a1
  · obtain rfl := r.bl_
    refine ⟨true, rfl, ?_⟩
    refine itT rfl ?_
    exact ⟨ρ1, e, h1, R1, E1, a1⟩
  · obtain rfl := r.bl_
    refine ⟨false, rfl, ?_⟩
    refine itF rfl ?_
    exact ⟨ρ1, e, h1, R1, E1, a1⟩
  · exact a1.elim
theorem st_asg {tg : Expr} {g : TG} {b : Val → En → Option En} {vs : List Nat} (hg : PG X tg g) (ok : GOk (sy T X) vs g b) (ha : SE T X W a f) (hs : swapsWithSole [tg] a pos.line X.env = pure false := by rfl) (hw : swappedStores [tg] a X.env = pure none := by rfl)
    (h1 : (assignEach [tg] X.env).map (·.2) = [assign tg X.env] := by rfl) : SSt T X W (.Assign [tg] a pos) (sAsg b f) := (ps_asg ha hg hs hw h1).imp fun D σ H q => by
  obtain ⟨ρ, e, h, R, E, a⟩ := q
  refine ⟨ρ, e, h, R, E, (a.ofR E).mono fun v H1 ⟨ρ1, d, h1, s, R1, r, E1, a1⟩ => ?_⟩
  split at a1
  · rename_i e1 he
    exact ok ρ1 H1 h1 e σ d v e1 D.nx R1 E1 r he fun σ' E' _ => a1 ρ1 _ H1 .rfl R1 E'
  · exact a1.elim
theorem st_par2 {i j : Nat} {x y : Str} {g : En → Hea → Res (List Val)} {px py pt : Pos} {kt k2 pt2} (hc : X.calm = true) (hN : X.N.Nodup) (hi : X.N[i]? = some x) (hj : X.N[j]? = some y) (hij : i ≠ j)
    (hx : X.env.scope.names.lookup x = some .local) (hy : X.env.scope.names.lookup y = some .local) (ha : SA T X W [a, b] g)
    (hw : swappedStores [.Tuple [.Name x px, .Name y py] kt pt] (.Tuple [a, b] k2 pt2) X.env = pure (some [x, y]))
    (hs : swapsWithSole [.Tuple [.Name x px, .Name y py] kt pt] (.Tuple [a, b] k2 pt2) pos.line X.env = pure false := by rfl) :
    SSt T X W (.Assign [.Tuple [.Name x px, .Name y py] kt pt] (.Tuple [a, b] k2 pt2) pos) (sPar [i, j] g) := (ps_par hc hN hi hj hij hx hy ha hw hs).imp fun D σ H q => by
  obtain ⟨ρ, e, h, R, E, a⟩ := q
  refine ⟨ρ, e, h, R, E, (a.ofA E).mono fun v H1 ⟨ρ1, d, h1, s, R1, r, E1, a1⟩ => ?_⟩
  split at a1
  · rename_i e1 he
    have hl := setAll_len he
    match d, v, r, hl with
    | [d1, d2], [v1, v2], .cons r1 (.cons r2 .nil), _ =>
      cases he
      exact ⟨v1, v2, rfl, a1 ρ1 _ H1 .rfl R1 ((E1.set r1 i).set r2 j)⟩
  · exact a1.elim
end
structure Src where
  item : Nat → Hea → Option (Option Val)
  fuel : Nat
  /-- the items, where they stand -/
  fix : Option (List Val)
  ok : ∀ xs, fix = some xs → item = (fun k _ => if k ≤ xs.length then some xs[k]? else none) ∧ fuel = xs.length + 1
def srcFix (xs : List Val) : Src := ⟨fun k _ => if k ≤ xs.length then some xs[k]? else none, xs.length + 1, some xs, fun _ h => by cases h; exact ⟨rfl, rfl⟩⟩
def srcLive (i : Nat) : Src := ⟨fun k h => (lstAt h i).map fun xs => xs[k]?, 100000, none, fun _ h => nomatch h⟩
def JOk (S : Sy) (ρ : Own) (H : Hp) (J : It) (it : Nat → Hea → Option (Option Val)) : Prop :=
  ∀ (ρ' : Own) (H' : Hp) (h' : Hea), Mv S ρ H ρ' H' → Rel S ρ' h' H' → ∀ k, match it k h' with
    | some none => J.stop k H'
    | some (some d) => J.go k H' ∧ ∀ x H'', J.yld k H' x H'' → Go S ρ' H' ρ' H'' ∧ Rel S ρ' h' H'' ∧ Rep S ρ' H'' d x
    | none => True
def AftI (S : Sy) (ρ : Own) (H : Hp) (r : Res Src) (R : It → Hp → Prop) (W : XK) : Prop := match r with
  | .ok s h' => ∀ ρ' H' J, Go S ρ H ρ' H' → Rel S ρ' h' H' → JOk S ρ' H' J s.item → R J H'
  | .exc c d h' => ∀ ρ' v H' dx, Go S ρ H ρ' H' → Rel S ρ' h' H' → Rep S ρ' H' d v → H' dx = some (.xd [(S.fld c, v)]) → W (.ref (S.ca c)) (some dx) H'
  | .stuck => False
def tI (S : Sy) (W : WX) (f : En → Hea → Res Src) : TI := fun σ H R => ∃ ρ e h, Rel S ρ h H ∧ ER S ρ H e σ ∧ AftI S ρ H (f e h) R (fun c d H' => W c d σ H')
abbrev SI (T : Tb) (X : Cx) (W : WX) (tg iter : Expr) (f : En → Hea → Res Src) : Prop := PI X tg iter (tI (sy T X) W f)
theorem _root_.L2.PI.imp {X : Cx} {tg e : Expr} {t t' : TI} (p : PI X tg e t) (h : ∀ σ H Q, t' σ H Q → t σ H Q) : PI X tg e t' := ⟨fun pins s σ H Q I q => p.run pins s σ H Q I (h σ H Q q)⟩
section
variable {S : Sy} {H : Hp} {ρ : Own}
theorem AftI.mono {r : Res Src} {R R' : It → Hp → Prop} {W : XK} (a : AftI S ρ H r R W) (h : ∀ v H', R v H' → R' v H') : AftI S ρ H r R' W := by
  cases r with
  | ok d h' => exact fun ρ1 H1 J s R j => h _ _ (a ρ1 H1 J s R j)
  | exc c d h' => exact a
  | stuck => exact a
theorem AftI.later {ρ1 : Own} {H1 : Hp} {r : Res Src} {R : It → Hp → Prop} {W : XK} (a : AftI S ρ H r R W) (s : Go S ρ H ρ1 H1) : AftI S ρ1 H1 r R W := by
  cases r with
  | ok d h' => exact fun ρ2 H2 J s2 => a ρ2 H2 J (s.trans s2)
  | exc c d h' => exact fun ρ2 v H2 dx s2 => a ρ2 v H2 dx (s.trans s2)
  | stuck => exact a
theorem AftI.bind {r : Res Val} {k : Val → Hea → Res Src} {R : It → Hp → Prop} {W : XK} (a : AftI S ρ H (r.bind k) R W) :
    Aft S ρ H r (fun v H1 => ∃ ρ1 d h1, Go S ρ H ρ1 H1 ∧ Rel S ρ1 h1 H1 ∧ Rep S ρ1 H1 d v ∧ AftI S ρ1 H1 (k d h1) R W) W := by
  cases r with
  | ok d h => exact fun ρ1 v H1 s R r => ⟨ρ1, d, h, s, R, r, AftI.later (r := k d h) a s⟩
  | exc c d h => exact a
  | stuck => exact a
theorem AftI.bindA {r : Res (List Val)} {k : List Val → Hea → Res Src} {R : It → Hp → Prop} {W : XK} (a : AftI S ρ H (r.bind k) R W) :
    AftA S ρ H r (fun v H1 => ∃ ρ1 d h1, Go S ρ H ρ1 H1 ∧ Rel S ρ1 h1 H1 ∧ Reps S ρ1 H1 d v ∧ AftI S ρ1 H1 (k d h1) R W) W := by
  cases r with
  | ok d h => exact fun ρ1 v H1 s R r => ⟨ρ1, d, h, s, R, r, AftI.later (r := k d h) a s⟩
  | exc c d h => exact a
  | stuck => exact a
theorem AftI.bindL {r : Res (List Val)} {k : List Val → Hea → Res Src} {R : It → Hp → Prop} {W : XK} (a : AftI S ρ H (r.bind k) R W) :
    AftL S ρ H r (fun v H1 => ∃ ρ1 d h1 p vs, Go S ρ H ρ1 H1 ∧ Rel S ρ1 h1 H1 ∧ v = .ref p ∧ H1 p = some (.lst vs) ∧ Fz ρ1 p ∧ Reps S ρ1 H1 d vs ∧ AftI S ρ1 H1 (k d h1) R W) W := by
  cases r with
  | ok d h => exact fun ρ1 p v H1 s R e n z r _ => ⟨ρ1, d, h, p, v, s, R, rfl, e, n, r, AftI.later (r := k d h) a s⟩
  | exc c d h => exact a
  | stuck => exact a
theorem jfix {J : It} {xs : List Val} (w : ∀ (ρ' : Own) (H' : Hp) (h' : Hea), Mv S ρ H ρ' H' → Rel S ρ' h' H' → ∀ k, k ≤ xs.length → match some xs[k]? with
    | some none => J.stop k H'
    | some (some d) => J.go k H' ∧ ∀ x H'', J.yld k H' x H'' → Go S ρ' H' ρ' H'' ∧ Rel S ρ' h' H'' ∧ Rep S ρ' H'' d x
    | none => True) : JOk S ρ H J (srcFix xs).item := fun ρ' H' h' g R k => by
  show match (if k ≤ xs.length then some xs[k]? else none) with | some none => _ | some (some d) => _ | none => _
  by_cases hk : k ≤ xs.length
  · rw [if_pos hk]
    exact w ρ' H' h' g R k hk
  · rw [if_neg hk]
    exact True.intro
/-- a tuple -/
theorem j_tup {a : Addr} {xs : List Val} {vs : List V} (sq : SqT S.K H a vs) (r : Reps S ρ H xs vs) : JOk S ρ H (Itt S.K a) (srcFix xs).item := jfix fun ρ' H' h' g R k _ => by
  have sq' := g.kp.1 _ _ sq
  have r' := r.mono g
  show match some xs[k]? with | some none => _ | some (some d) => _ | none => _
  cases e : xs[k]? with
  | none =>
    have hk : xs.length ≤ k := List.getElem?_eq_none_iff.mp e
    exact ⟨vs, sq', by rw [← r.length]; exact hk⟩
  | some d =>
    obtain ⟨v, ev, rv⟩ := r'.get e
    refine ⟨⟨vs, v, sq', ev⟩, fun x H'' ⟨eh, q⟩ => ?_⟩
    subst eh
    have z := q vs sq'
    rw [ev] at z
    cases z
    exact ⟨.rfl, R, rv⟩
/-- a list that nothing else holds -/
theorem j_tmp {a : Addr} {xs : List Val} {vs : List V} (sq : H a = some (.lst vs)) (n : Fz ρ a) (r : Reps S ρ H xs vs) : JOk S ρ H (Itl S.K a) (srcFix xs).item := jfix fun ρ' H' h' g R k _ => by
  have e' := g.lst n sq
  have sq' : SqL S.K H' a vs := .inl (.inl e')
  have r' := r.mono g
  show match some xs[k]? with | some none => _ | some (some d) => _ | none => _
  cases e : xs[k]? with
  | none =>
    have hk : xs.length ≤ k := List.getElem?_eq_none_iff.mp e
    exact ⟨vs, sq', by rw [← r.length]; exact hk⟩
  | some d =>
    obtain ⟨v, ev, rv⟩ := r'.get e
    refine ⟨⟨vs, v, sq', ev⟩, fun x H'' ⟨eh, q⟩ => ?_⟩
    subst eh
    have z := q vs sq'
    rw [ev] at z
    cases z
    exact ⟨.rfl, R, rv⟩
/-- a list of the heap, as it stands at each turn -/
theorem j_live {a : Addr} {i : Nat} (ea : ρ.nm[i]? = some a) : JOk S ρ H (Itl S.K a) (srcLive i).item := fun ρ' H' h' g R k => by
  show match (lstAt h' i).map fun xs => xs[k]? with | some none => _ | some (some d) => _ | none => _
  cases el : lstAt h' i with
  | none => exact True.intro
  | some xs =>
    obtain ⟨vs, sq', r'⟩ := R.lst el (g.sub _ _ ea)
    show match some xs[k]? with | some none => _ | some (some d) => _ | none => _
    cases e : xs[k]? with
    | none =>
      have hk : xs.length ≤ k := List.getElem?_eq_none_iff.mp e
      exact ⟨vs, sq', by rw [← r'.length]; exact hk⟩
    | some d =>
      obtain ⟨v, ev, rv⟩ := r'.get e
      refine ⟨⟨vs, v, sq', ev⟩, fun x H'' ⟨eh, q⟩ => ?_⟩
      subst eh
      have z := q vs sq'
      rw [ev] at z
      cases z
      exact ⟨.rfl, R, rv⟩
def rangeV (lo : Int) (n : Nat) : List Val := (List.range n).map fun (i : Nat) => Val.int (lo + (i : Int))
theorem j_range {lo : Int} {n : Nat} : JOk S ρ H (Itr lo n) (srcFix (rangeV lo n)).item := jfix fun ρ' H' h' g R k _ => by
  show match some (rangeV lo n)[k]? with | some none => _ | some (some d) => _ | none => _
  by_cases hk : k < n
  · have e : (rangeV lo n)[k]? = some (.int (lo + (k : Int))) := by
      unfold rangeV
      rw [List.getElem?_map, List.getElem?_range hk]
      rfl
    rw [e]
    refine ⟨hk, fun x H'' ⟨eh, q⟩ => ?_⟩
    subst eh q
    exact ⟨.rfl, R, .int _⟩
  · have e : (rangeV lo n)[k]? = none := by
      unfold rangeV
      rw [List.getElem?_eq_none_iff]
      simpa using hk
    rw [e]
    exact Nat.le_of_not_lt hk
end
/-- sources -/
def iVal (f : En → Hea → Res Val) : En → Hea → Res Src := fun e h => (f e h).bind fun d h1 => match d with
  | .ref i => if (lstAt h1 i).isSome = true then .ok (srcLive i) h1 else .stuck
  | .lst xs => .ok (srcFix xs) h1
  | _ => .stuck
def iTupV (f : En → Hea → Res Val) : En → Hea → Res Src := fun e h => (f e h).bind fun d h1 => match d with
  | .tup xs => .ok (srcFix xs) h1
  | _ => .stuck
def iTmp (f : En → Hea → Res (List Val)) : En → Hea → Res Src := fun e h => (f e h).bind fun xs h1 => .ok (srcFix xs) h1
def rngOk (i : Int) : Bool := decide (-(2 ^ 62) ≤ i ∧ i < 2 ^ 62)
def iRng1V (f : En → Hea → Res (List Val)) : En → Hea → Res Src := fun e h => (f e h).bind fun ds h1 => match ds with
  | [.int j] => if rngOk j = true then .ok (srcFix (rangeV 0 j.toNat)) h1 else .stuck
  | _ => .stuck
def iRng2V (f : En → Hea → Res (List Val)) : En → Hea → Res Src := fun e h => (f e h).bind fun ds h1 => match ds with
  | [.int i, .int j] => if (rngOk i && rngOk j) = true then .ok (srcFix (rangeV i (j - i).toNat)) h1 else .stuck
  | _ => .stuck
section
variable {T : Tb} {X : Cx} {W : WX} {tg a b c : Expr} {f : En → Hea → Res Val} {g : En → Hea → Res (List Val)} {pos p : Pos}
theorem si_val (ha : SE T X W a f) : SI T X W tg a (iVal f) := (pi_list ha).imp fun σ H Q q => by
  obtain ⟨ρ, e, h, R, E, a⟩ := q
  refine ⟨ρ, e, h, R, E, (AftI.bind a).mono fun v H1 ⟨ρ1, d, h1, s, R1, r, a1⟩ => ?_⟩
  split at a1
  · obtain ⟨p, rfl, ea⟩ := r.ref_
    split at a1
    · rename_i i hs
      obtain ⟨xs, hx⟩ := Option.isSome_iff_exists.mp hs
      obtain ⟨vs, sq, _⟩ := R1.lst hx ea
      exact ⟨p, rfl, ⟨vs, sq⟩, a1 ρ1 H1 _ .rfl R1 (j_live ea)⟩
    · exact a1.elim
  · cases r with
    | lst f h1 h2 => exact ⟨_, rfl, ⟨_, .inl (.inl h1)⟩, a1 ρ1 H1 _ .rfl R1 (j_tmp h1 f h2)⟩
  · exact a1.elim
theorem si_tup (ha : SE T X W a f) : SI T X W tg a (iTupV f) := (pi_tup ha).imp fun σ H Q q => by
  obtain ⟨ρ, e, h, R, E, a⟩ := q
  refine ⟨ρ, e, h, R, E, (AftI.bind a).mono fun v H1 ⟨ρ1, d, h1, s, R1, r, a1⟩ => ?_⟩
  split at a1
  · obtain ⟨p, vs, rfl, sq, rr⟩ := r.tup_
    exact ⟨p, rfl, ⟨vs, sq.sq⟩, a1 ρ1 H1 _ .rfl R1 (j_tup sq.sq rr)⟩
  · exact a1.elim
theorem si_tmp (ha : SL T X W a g) : SI T X W tg a (iTmp g) := (pi_list ha).imp fun σ H Q q => by
  obtain ⟨ρ, e, h, R, E, a⟩ := q
  refine ⟨ρ, e, h, R, E, (AftI.bindL a).mono fun v H1 ⟨ρ1, d, h1, p, vs, s, R1, ev, el, n, r, a1⟩ => ?_⟩
  subst ev
  exact ⟨p, rfl, ⟨vs, .inl (.inl el)⟩, a1 ρ1 H1 _ .rfl R1 (j_tmp el n r)⟩
theorem si_range1 (hg : Gl X "range") (hm : X.mg "range" = none) (ha : SA T X W [a] g) (hs : starEach [a] X.env = [(false, eval a X.env)] := by rfl) : SI T X W tg (.Call (.Name "range" p) [a] [] pos) (iRng1V g) := (pi_range1 hg hm ha hs).imp fun σ H Q q => by
  obtain ⟨ρ, e, h, R, E, a⟩ := q
  refine ⟨ρ, e, h, R, E, (AftI.bindA a).mono fun v H1 ⟨ρ1, d, h1, s, R1, r, a1⟩ => ?_⟩
  split at a1
  · obtain rfl := Reps.ints (ns := [_]) r
    split at a1
    · rename_i hr
      have hr := of_decide_eq_true hr
      exact ⟨_, rfl, hr.1, hr.2, a1 ρ1 H1 _ .rfl R1 j_range⟩
    · exact a1.elim
  · exact a1.elim
theorem si_range2 (hg : Gl X "range") (hm : X.mg "range" = none) (ha : SA T X W [a, b] g) (hs : starEach [a, b] X.env = [(false, eval a X.env), (false, eval b X.env)] := by rfl) (hs2 : starEach [b] X.env = [(false, eval b X.env)] := by rfl) :
    SI T X W tg (.Call (.Name "range" p) [a, b] [] pos) (iRng2V g) := (pi_range2 hg hm ha hs hs2).imp fun σ H Q q => by
  obtain ⟨ρ, e, h, R, E, a⟩ := q
  refine ⟨ρ, e, h, R, E, (AftI.bindA a).mono fun v H1 ⟨ρ1, d, h1, s, R1, r, a1⟩ => ?_⟩
  split at a1
  · obtain rfl := Reps.ints (ns := [_, _]) r
    split at a1
    · rename_i hr
      rw [Bool.and_eq_true] at hr
      have h1 := of_decide_eq_true hr.1
      have h2 := of_decide_eq_true hr.2
      exact ⟨_, _, rfl, ⟨h1.1, h1.2, h2.1, h2.2⟩, a1 ρ1 H1 _ .rfl R1 j_range⟩
    · exact a1.elim
  · exact a1.elim
end
def forG (it : Nat → Hea → Option (Option Val)) (b : Val → En → Option En) (body : En → Hea → SRes) : Nat → Nat → En → Hea → SRes
  | 0, _, _, _ => .stuck
  | n + 1, k, e, h => match it k h with
    | some none => .nx e h
    | some (some v) => match b v e with
      | some e1 => match body e1 h with
        | .nx e2 h2 => forG it b body n (k + 1) e2 h2
        | .ct e2 h2 => forG it b body n (k + 1) e2 h2
        | .bk e2 h2 => .nx e2 h2
        | r => r
      | none => .stuck
    | none => .stuck
def forL (b : Val → En → Option En) (body : En → Hea → SRes) : List Val → En → Hea → SRes
  | [], e, h => .nx e h
  | v :: vs, e, h => match b v e with
    | some e1 => match body e1 h with
      | .nx e2 h2 => forL b body vs e2 h2
      | .ct e2 h2 => forL b body vs e2 h2
      | .bk e2 h2 => .nx e2 h2
      | r => r
    | none => .stuck
theorem fix_item (xs : List Val) {k : Nat} (hk : k ≤ xs.length) (h : Hea) : (srcFix xs).item k h = some xs[k]? := by
  show (if k ≤ xs.length then some xs[k]? else none) = _
  rw [if_pos hk]
theorem forG_fix (b : Val → En → Option En) (body : En → Hea → SRes) (xs : List Val) : ∀ (m k : Nat) (e : En) (h : Hea), k + m = xs.length + 1 → 0 < m → forG (srcFix xs).item b body m k e h = forL b body (xs.drop k) e h := by
  intro m
  induction m with
  | zero => intro k e h hm h0; omega
  | succ m ih =>
    intro k e h hm _
    unfold forG
    rw [fix_item xs (by omega)]
    by_cases hk : k < xs.length
    · rw [List.getElem?_eq_getElem hk, List.drop_eq_getElem_cons hk]
      unfold forL
      dsimp only
      cases b xs[k] e with
      | none => rfl
      | some e1 =>
        dsimp only
        cases body e1 h with
        | nx e2 h2 => exact ih (k + 1) e2 h2 (by omega) (by omega)
        | ct e2 h2 => exact ih (k + 1) e2 h2 (by omega) (by omega)
        | _ => rfl
    · rw [List.getElem?_eq_none_iff.mpr (by omega), List.drop_eq_nil_of_le (by omega)]
      rfl
def runFor (s : Src) (b : Val → En → Option En) (body : En → Hea → SRes) (e : En) (h : Hea) : SRes := match s.fix with
  | some xs => forL b body xs e h
  | none => forG s.item b body s.fuel 0 e h
theorem runFor_eq {s : Src} {b : Val → En → Option En} {body : En → Hea → SRes} {e : En} {h : Hea} : runFor s b body e h = forG s.item b body s.fuel 0 e h := by
  unfold runFor
  cases hf : s.fix with
  | none => rfl
  | some xs =>
    obtain ⟨e1, e2⟩ := s.ok xs hf
    rw [e1, e2]
    exact (forG_fix b body xs (xs.length + 1) 0 e h (by omega) (by omega)).symm
def sFor (src : En → Hea → Res Src) (b : Val → En → Option En) (body : En → Hea → SRes) : En → Hea → SRes := fun e h => ofR (src e h) e fun s h1 => runFor s b body e h1
def whG (t : En → Hea → Res Val) (body : En → Hea → SRes) : Nat → En → Hea → SRes
  | 0, _, _ => .stuck
  | n + 1, e, h => ofR (t e h) e fun d h1 => match d with
    | .bl true => match body e h1 with
      | .nx e2 h2 => whG t body n e2 h2
      | .ct e2 h2 => whG t body n e2 h2
      | .bk e2 h2 => .nx e2 h2
      | r => r
    | .bl false => .nx e h1
    | _ => .stuck
def sWhile (fuel : Nat) (t : En → Hea → Res Val) (body : En → Hea → SRes) : En → Hea → SRes := fun e h => whG t body fuel e h
section
variable {S : Sy} {W : WX} {H : Hp} {D : Ends} {ρ : Own} {σ : St} {e : En}
theorem AftS.ofI {r : Res Src} {k : Src → Hea → SRes} (a : AftS S ρ H (Lad.ofR r e k) D W) (E : ER S ρ H e σ) :
    AftI S ρ H r (fun J H1 => ∃ ρ1 d h1, Go S ρ H ρ1 H1 ∧ Rel S ρ1 h1 H1 ∧ JOk S ρ1 H1 J d.item ∧ ER S ρ1 H1 e σ ∧ AftS S ρ1 H1 (k d h1) D W) (fun c d H' => W c d σ H') := by
  cases r with
  | ok d h => exact fun ρ1 H1 J s R r => ⟨ρ1, d, h, s, R, r, E.go s, AftS.later (r := k d h) a s⟩
  | exc c d h => exact fun ρ1 v H1 dx s R r x => a ρ1 v σ H1 dx s R r (E.go s) x
  | stuck => exact a
end
section
variable {T : Tb} {X : Cx} {W : WX} {tg a : Expr} {src : En → Hea → Res Src} {f : En → Hea → Res Val} {body : List Stmt} {fb : En → Hea → SRes} {g : TG} {b : Val → En → Option En} {vs : List Nat} {pos : Pos}
theorem st_for (hp : PassesOwn (model X.prog X.w) X.A X.env X.xe) (hc : X.calm = true) (hi : SI T X W tg a src) (hg : PG X tg g) (ok : GOk (sy T X) vs g b) (hb : SSs T X W body fb) (hs : ∀ x, foldedSetIterable a X.env x = pure x := by intro _; rfl) :
    SSt T X W (.For tg a body [] pos) (sFor src b fb) := by
  refine PS.imp (ps_for hp hc hi hg hb hs) fun D σ H q => ?_
  obtain ⟨ρ, e, h, R, E, a⟩ := q
  refine ⟨ρ, e, h, R, E, (a.ofI E).mono fun J H1 ⟨ρ1, d, h1, s, R1, j, E1, a1⟩ => ?_⟩
  have a1 : AftS (sy T X) ρ1 H1 (forG d.item b fb d.fuel 0 e h1) D W := by rw [← runFor_eq]; exact a1
  refine ⟨fun k m σ H2 => ∃ ρ2 e2 h2, Go (sy T X) ρ1 H1 ρ2 H2 ∧ Rel (sy T X) ρ2 h2 H2 ∧ ER (sy T X) ρ2 H2 e2 σ ∧ AftS (sy T X) ρ2 H2 (forG d.item b fb m k e2 h2) D W, ⟨d.fuel, ρ1, e, h1, .rfl, R1, E1, a1⟩, fun k m σ H2 w => ?_⟩
  obtain ⟨ρ2, e2, h2, g2, R2, E2, a2⟩ := w
  cases m with
  | zero => exact a2.elim
  | succ m =>
    have jk := j ρ2 H2 h2 g2.mv R2 k
    unfold forG at a2
    cases hit : d.item k h2 with
    | none => rw [hit] at a2; exact a2.elim
    | some o =>
      rw [hit] at a2 jk
      cases o with
      | none => exact .inl ⟨jk, a2 ρ2 σ H2 .rfl R2 E2⟩
      | some v =>
        refine .inr ⟨jk.1, fun σ' H' => ∃ ρ2 e2 h2, Go (sy T X) ρ1 H1 ρ2 H' ∧ Rel (sy T X) ρ2 h2 H' ∧ ER (sy T X) ρ2 H' e2 σ' ∧ AftS (sy T X) ρ2 H' (forG d.item b fb m (k + 1) e2 h2) D W, fun σ' H' z => ⟨m, Nat.lt_succ_self m, z⟩, fun x H' y => ?_⟩
        obtain ⟨g3, R3, r3⟩ := jk.2 x H' y
        dsimp only at a2
        cases hbv : b v e2 with
        | none => rw [hbv] at a2; exact a2.elim
        | some e3 =>
          rw [hbv] at a2
          refine ok ρ2 H' h2 e2 σ v x e3 _ R3 (E2.go g3) r3 hbv fun σ3 E3 _ => ⟨ρ2, e3, h2, R3, E3, ?_⟩
          have g4 := g2.trans g3
          have a3 := AftS.later a2 g3
          dsimp only at a3
          revert a3
          cases fb e3 h2 with
          | nx e4 h4 => exact fun a3 ρ4 σ4 H4 s4 R4 E4 => ⟨ρ4, e4, h4, g4.trans s4, R4, E4, a3.later s4⟩
          | ct e4 h4 => exact fun a3 ρ4 σ4 H4 s4 R4 E4 => ⟨ρ4, e4, h4, g4.trans s4, R4, E4, a3.later s4⟩
          | bk e4 h4 => exact fun a3 ρ4 σ4 H4 s4 R4 E4 => a3 ρ4 σ4 H4 s4 R4 E4
          | rt v4 h4 => exact fun a3 => a3
          | exc c4 d4 e4 h4 => exact fun a3 => a3
          | stuck => exact fun a3 => a3
theorem st_while (n : Nat) (hp : PassesOwn (model X.prog X.w) X.A X.env X.xe) (ht : ST T X W a f) (hb : SSs T X W body fb) : SSt T X W (.While a body [] pos) (sWhile n f fb) := by
  refine PS.imp (ps_while hp ht hb) fun D σ H q => ?_
  obtain ⟨ρ, e, h, R, E, a⟩ := q
  refine ⟨fun m σ H2 => ∃ ρ2 e2 h2, Rel (sy T X) ρ2 h2 H2 ∧ ER (sy T X) ρ2 H2 e2 σ ∧ AftS (sy T X) ρ2 H2 (whG f fb m e2 h2) D W, ⟨n, ρ, e, h, R, E, a⟩, fun m σ H2 w => ?_⟩
  obtain ⟨ρ2, e2, h2, R2, E2, a2⟩ := w
  cases m with
  | zero => exact a2.elim
  | succ m =>
    unfold whG at a2
    refine ⟨ρ2, e2, h2, R2, E2, (a2.ofR E2).mono fun v H3 ⟨ρ3, d, h3, s, R3, r, E3, a3⟩ => ?_⟩
    split at a3
    · obtain rfl := r.bl_
      refine ⟨true, rfl, ?_⟩
      refine itT rfl ?_
      refine ⟨fun σ' H' => ∃ ρ2 e2 h2, Rel (sy T X) ρ2 h2 H' ∧ ER (sy T X) ρ2 H' e2 σ' ∧ AftS (sy T X) ρ2 H' (whG f fb m e2 h2) D W, fun σ' H' z => ⟨m, Nat.lt_succ_self m, z⟩, ρ3, e2, h3, R3, E3, ?_⟩
      revert a3
      cases fb e2 h3 with
      | nx e4 h4 => exact fun a3 ρ4 σ4 H4 s4 R4 E4 => ⟨ρ4, e4, h4, R4, E4, a3.later s4⟩
      | ct e4 h4 => exact fun a3 ρ4 σ4 H4 s4 R4 E4 => ⟨ρ4, e4, h4, R4, E4, a3.later s4⟩
      | bk e4 h4 => exact fun a3 ρ4 σ4 H4 s4 R4 E4 => a3 ρ4 σ4 H4 s4 R4 E4
      | rt v4 h4 => exact fun a3 => a3
      | exc c4 d4 e4 h4 => exact fun a3 => a3
      | stuck => exact fun a3 => a3
    · obtain rfl := r.bl_
      refine ⟨false, rfl, ?_⟩
      refine itF rfl ?_
      exact a3 ρ3 σ H3 .rfl R3 E3
    · exact a3.elim
end
end Lad
end
section
set_option maxRecDepth 100000
set_option maxHeartbeats 1000000
namespace Lad
open PySem L2
def noX {α : Type} (r : Res α) : Res α := match r with
  | .ok a h => .ok a h
  | _ => .stuck
def wipeE (e : En) : List Nat → En
  | [] => e
  | v :: vs => (wipeE e vs).set v none
def compG (it : Nat → Hea → Option (Option Val)) (b : Val → En → Option En) (tt f : En → Hea → Res Val) (e0 : En) : Nat → Nat → List Val → Hea → Res (List Val)
  | 0, _, _, _ => .stuck
  | n + 1, k, acc, h => match it k h with
    | some none => .ok acc h
    | some (some v) => match b v e0 with
      | some e1 => (noX (tt e1 h)).bind fun c h1 => match c with
        | .bl true => (noX (f e1 h1)).bind fun y h2 => if acc.length < 16777216 then compG it b tt f e0 n (k + 1) (acc ++ [y]) h2 else .stuck
        | .bl false => compG it b tt f e0 n (k + 1) acc h1
        | _ => .stuck
      | none => .stuck
    | none => .stuck
theorem bindOk {α β : Type} {a : α} {h : Hea} {k : α → Hea → Res β} : (Res.ok a h).bind k = k a h := rfl
def compL (b : Val → En → Option En) (tt f : En → Hea → Res Val) (e0 : En) : List Val → Hea → Res (List Val)
  | [], h => .ok [] h
  | v :: vs, h => match b v e0 with
    | some e1 => (noX (tt e1 h)).bind fun c h1 => match c with
      | .bl true => (noX (f e1 h1)).bind fun y h2 => (compL b tt f e0 vs h2).bind fun ys h3 => .ok (y :: ys) h3
      | .bl false => compL b tt f e0 vs h1
      | _ => .stuck
    | none => .stuck
theorem compG_fix (b : Val → En → Option En) (tt f : En → Hea → Res Val) (e0 : En) (xs : List Val) (hz : xs.length ≤ 16777216) : ∀ (m k : Nat) (acc : List Val) (h : Hea), k + m = xs.length + 1 → 0 < m → acc.length ≤ k →
    compG (srcFix xs).item b tt f e0 m k acc h = (compL b tt f e0 (xs.drop k) h).bind fun ys h1 => .ok (acc ++ ys) h1 := by
  intro m
  induction m with
  | zero => intro k acc h hm h0; omega
  | succ m ih =>
    intro k acc h hm _ ha
    unfold compG
    rw [fix_item xs (by omega)]
    by_cases hk : k < xs.length
    · rw [List.getElem?_eq_getElem hk, List.drop_eq_getElem_cons hk]
      unfold compL
      dsimp only
      cases b xs[k] e0 with
      | none => rfl
      | some e1 =>
        dsimp only
        cases noX (tt e1 h) with
        | ok c h1 =>
          simp only [bindOk]
          cases c with
          | bl c =>
            cases c with
            | true =>
              dsimp only
              cases noX (f e1 h1) with
              | ok y h2 =>
                simp only [bindOk]
                rw [if_pos (by omega), ih (k + 1) (acc ++ [y]) h2 (by omega) (by omega) (by simp; omega)]
                cases compL b tt f e0 (xs.drop (k + 1)) h2 with
                | ok ys h3 => simp [bindOk]
                | exc c d h3 => rfl
                | stuck => rfl
              | exc c d h2 => rfl
              | stuck => rfl
            | false =>
              dsimp only
              exact ih (k + 1) acc h1 (by omega) (by omega) (by omega)
          | _ => rfl
        | exc c d h1 => rfl
        | stuck => rfl
    · rw [List.getElem?_eq_none_iff.mpr (by omega), List.drop_eq_nil_of_le (by omega)]
      simp [compL, bindOk]
def runComp (s : Src) (b : Val → En → Option En) (tt f : En → Hea → Res Val) (e0 : En) (h : Hea) : Res (List Val) := match s.fix with
  | some xs => if xs.length ≤ 16777216 then compL b tt f e0 xs h else compG s.item b tt f e0 s.fuel 0 [] h
  | none => compG s.item b tt f e0 s.fuel 0 [] h
theorem runComp_eq {s : Src} {b : Val → En → Option En} {tt f : En → Hea → Res Val} {e0 : En} {h : Hea} : runComp s b tt f e0 h = compG s.item b tt f e0 s.fuel 0 [] h := by
  unfold runComp
  cases hf : s.fix with
  | none => rfl
  | some xs =>
    dsimp only
    split
    · rename_i hz
      obtain ⟨e1, e2⟩ := s.ok xs hf
      rw [e1, e2]
      refine Eq.trans ?_ (compG_fix b tt f e0 xs hz (xs.length + 1) 0 [] h (by omega) (by omega) (by simp)).symm
      rw [List.drop_zero]
      cases compL b tt f e0 xs h <;> rfl
    · rfl
def lComp (own : List Nat) (src : En → Hea → Res Src) (b : Val → En → Option En) (tt f : En → Hea → Res Val) : En → Hea → Res (List Val) := fun e h => (src e h).bind fun s h1 => runComp s b tt f (wipeE e own) h1
def eYes : En → Hea → Res Val := fun _ h => .ok (.bl true) h
abbrev W0 : WX := fun _ _ _ _ => False
section
variable {S : Sy} {ρ ρ1 ρ2 : Own} {H H1 Hc : Hp} {h : Hea} {D : Addr} {us us' : List V}
theorem Go.tmp (g : Go S ρ1 H1 ρ2 Hc) (z : H1 D = Option.none) (e : Hc D = some (.lst us)) : Go S ρ1 H1 ρ2 (upd Hc D (.lst us')) :=
  ⟨g.sub, g.kp.trans (.put e True.intro), fun a o q n => by rw [upd_ne (ne_of_none q z)]; exact g.fr a o q n, g.nw, g.hd⟩
/-- what is being made is changed -/
theorem Rel.off (R : Rel S ρ h H) {o : HO} {u : HO} (n : Off ρ D) (m : D ∈ ρ.hd) (e : H D = some u) (h1 : Ch u) : Rel S ρ h (upd H D o) :=
  ⟨R.len, R.inj, fun i ob a e1 e2 => (R.ob i ob a e1 e2).mono (.hid m e h1) (upd_ne fun z => n i (z ▸ e2)), fun a m => let ⟨⟨_, e⟩, z⟩ := R.hid a m; ⟨upd_some e, z⟩⟩
theorem Rel.hideNew (R : Rel S ρ h H) {o : HO} (n : H D = none) : Rel S (ρ.hide D) h (upd H D o) := by
  have m : Mv S ρ H (ρ.hide D) (upd H D o) := ⟨fun _ _ h => h, .new n, fun a u e f => ⟨⟨u, by rw [upd_ne (ne_of_none e n)]; exact e, .rfl⟩, f.1, fun m => by
    rcases List.mem_cons.mp m with m | m
    · exact ne_of_none e n m
    · exact f.2 m⟩⟩
  refine ⟨R.len, R.inj, fun i ob a e1 e2 => (R.ob i ob a e1 e2).mono m (upd_ne fun z => R.free n (z ▸ e2)), fun a m => ?_⟩
  rcases List.mem_cons.mp m with m | m
  · subst m
    exact ⟨⟨_, upd_same⟩, fun i z => R.free n z⟩
  · obtain ⟨⟨_, e⟩, z⟩ := R.hid a m
    exact ⟨upd_some e, z⟩
theorem Go.reh {η : List Addr} (g : Go S ρ H ρ1 H1) (hh : ρ.hd = D :: η) : Go S ⟨ρ.nm, η⟩ H ⟨ρ1.nm, η⟩ H1 := ⟨g.sub, g.kp, fun a o e n => ⟨(g.fr a o e n).1, fun m => (g.fr a o e n).2 (by rw [hh]; exact List.mem_cons_of_mem _ m)⟩, g.nw, Eq.refl _⟩
theorem Go.mvh (g : Go S ρ1 H1 ⟨ρ2.nm, ρ1.hd⟩ Hc) (hh : ρ2.hd = D :: ρ1.hd) (z : H1 D = Option.none) : Mv S ρ1 H1 ρ2 Hc := ⟨g.sub, g.kp, fun a o e f => by
  obtain ⟨h1, h2⟩ := g.mv.fz a o e f
  refine ⟨h1, h2.1, ?_⟩
  rw [hh]
  intro m
  rcases List.mem_cons.mp m with m | m
  · exact ne_of_none e z m
  · exact f.2 m⟩
/-- the thing that was being made is made: it is held -/
theorem Rel.shown {η : List Addr} {xs : List Val} (R : Rel S ρ h H) (hh : ρ.hd = D :: η) (nη : D ∉ η) (n : Off ρ D) (e : H D = some (.lst us)) (r : Reps S ρ H xs us) :
    Rel S ⟨ρ.nm, η⟩ h H ∧ Reps S ⟨ρ.nm, η⟩ H xs us ∧ Rel S (Own.add ⟨ρ.nm, η⟩ D) (h ++ [.lst xs]) H := by
  have m1 : Mv S ρ H ⟨ρ.nm, η⟩ H := ⟨fun _ _ h => h, .rfl, fun a o e f => ⟨⟨o, e, .rfl⟩, f.1, fun m => f.2 (by rw [hh]; exact List.mem_cons_of_mem _ m)⟩⟩
  have m2 : Mv S ρ H (Own.add ⟨ρ.nm, η⟩ D) H := ⟨Sub.app (ρ := ⟨ρ.nm, η⟩), .rfl, fun a o e f => ⟨⟨o, e, .rfl⟩, (m1.fz a o e f).2.add fun z => f.2 (by rw [hh, z]; exact List.mem_cons_self)⟩⟩
  have hi : ∀ a, a ∈ η → (∃ u, H a = some u) ∧ Off (⟨ρ.nm, η⟩ : Own) a := fun a m => R.hid a (by rw [hh]; exact List.mem_cons_of_mem _ m)
  refine ⟨⟨R.len, R.inj, fun i o a e1 e2 => (R.ob i o a e1 e2).mono m1 rfl, hi⟩, r.mono m1, ?_⟩
  exact Rel.grow (ρ := ⟨ρ.nm, η⟩) R.len R.inj n (fun i o a e1 e2 => (R.ob i o a e1 e2).mono m2 rfl) (.lst e (r.mono m2)) hi nη
theorem ER.wipe {e : En} {σ : St} (E : ER S ρ H e σ) : ∀ vs : List Nat, ER S ρ H (wipeE e vs) (L2.wipe σ vs)
  | [] => E
  | v :: vs => (E.wipe vs).gone v
theorem AftL.bindI {r : Res Src} {k : Src → Hea → Res (List Val)} {Q : VK} {W : XK} (a : AftL S ρ H (r.bind k) Q W) :
    AftI S ρ H r (fun J H1 => ∃ ρ1 d h1, Go S ρ H ρ1 H1 ∧ Rel S ρ1 h1 H1 ∧ JOk S ρ1 H1 J d.item ∧ AftL S ρ1 H1 (k d h1) Q W) W := by
  cases r with
  | ok d h => exact fun ρ1 H1 J s R j => ⟨ρ1, d, h, s, R, j, AftL.later (r := k d h) a s⟩
  | exc c d h => exact a
  | stuck => exact a
theorem AftL.noX {r : Res Val} {k : Val → Hea → Res (List Val)} {Q : VK} {W : XK} (a : AftL S ρ H ((Lad.noX r).bind k) Q W) :
    ∃ d h1, r = .ok d h1 ∧ AftL S ρ H (k d h1) Q W := by
  cases r with
  | ok d h => exact ⟨d, h, rfl, a⟩
  | exc c d h => exact a.elim
  | stuck => exact a.elim
end
section
variable {T : Tb} {X : Cx} {W : WX} {tg iter elt : Expr} {ifs : List Expr} {scope : Scope} {own : List (Str × Nat)} {src : En → Hea → Res Src} {tt f : En → Hea → Res Val} {g : TG} {b : Val → En → Option En} {pos : Pos}
abbrev STs (T : Tb) (X : Cx) (W : WX) (ifs : List Expr) (f : En → Hea → Res Val) : Prop := PTs X ifs (tB (tE (sy T X) W f))
theorem _root_.L2.PTs.imp {t t' : TT} (p : PTs X ifs t) (h : ∀ σ H Q, t' σ H Q → t σ H Q) : PTs X ifs t' := ⟨fun pins s σ H Q I q => p.run pins s σ H Q I (h σ H Q q)⟩
theorem sts_nil : STs T X W [] eYes := pts_nil.imp fun σ H Q q => by
  obtain ⟨ρ, e, h, R, E, a⟩ := q
  obtain ⟨c, ec, q⟩ := a.same R (.bl true)
  cases ec
  exact q
theorem sts_one {c : Expr} (h : ST T X W c f) : STs T X W [c] f := pts_one h
theorem lc_imp (ok : GOk (sy T X) (own.map (·.2)) g b) {σ : St} {H : Hp} {Q : VK} (q : tL (sy T X) W (lComp (own.map (·.2)) src b tt f) σ H Q) :
    tLc (tI (sy T X) W src) g (tB (tE (sy T X) W0 tt)) (tE (sy T X) W0 f) (own.map (·.2)) σ H Q := by
  obtain ⟨ρ, e, h, R, E, a⟩ := q
  refine ⟨ρ, e, h, R, E, (AftL.bindI a).mono fun J H1 ⟨ρ1, d, h1, s, R1, j, a1⟩ => fun D hD => ?_⟩
  have E1 : ER (sy T X) ρ1 H1 e σ := E.go s
  have ew := E1.wipe (own.map (·.2))
  rw [runComp_eq] at a1
  refine ⟨fun k m Hc => ∃ ρ2 h2 acc us, ρ2.hd = D :: ρ1.hd ∧ Go (sy T X) ρ1 H1 ⟨ρ2.nm, ρ1.hd⟩ Hc ∧ Rel (sy T X) ρ2 h2 Hc ∧ Hc D = some (.lst us) ∧ Off ρ2 D ∧ Reps (sy T X) ρ2 Hc acc us ∧ AftL (sy T X) ρ1 H1 (compG d.item b tt f (wipeE e (own.map (·.2))) m k acc h2) Q (fun c d H' => W c d σ H'),
    ⟨d.fuel, ρ1.hide D, h1, [], [], rfl, .side hD, R1.hideNew hD, upd_same, fun i z => R1.free hD z, .nil, a1⟩, fun k m Hc w => ?_⟩
  obtain ⟨ρ2, h2, acc, us, hh, g2, R2, hDc, nD, rA, a2⟩ := w
  have mD : D ∈ ρ2.hd := by rw [hh]; exact List.mem_cons_self
  cases m with
  | zero => exact a2.elim
  | succ m =>
    have jk := j ρ2 Hc h2 (g2.mvh hh hD) R2 k
    unfold compG at a2
    cases hit : d.item k h2 with
    | none => rw [hit] at a2; exact a2.elim
    | some o =>
      rw [hit] at a2 jk
      cases o with
      | none =>
        obtain ⟨k1, k2, k3⟩ := R2.shown hh (R1.fz hD).2 nD hDc rA
        exact .inl ⟨jk, a2 ⟨ρ2.nm, ρ1.hd⟩ D us Hc g2 k1 hDc ⟨nD, (R1.fz hD).2⟩ hD k2 k3⟩
      | some v =>
        refine .inr ⟨jk.1, fun Hc => ∃ ρ2 h2 acc us, ρ2.hd = D :: ρ1.hd ∧ Go (sy T X) ρ1 H1 ⟨ρ2.nm, ρ1.hd⟩ Hc ∧ Rel (sy T X) ρ2 h2 Hc ∧ Hc D = some (.lst us) ∧ Off ρ2 D ∧ Reps (sy T X) ρ2 Hc acc us ∧ AftL (sy T X) ρ1 H1 (compG d.item b tt f (wipeE e (own.map (·.2))) m (k + 1) acc h2) Q (fun c d H' => W c d σ H'),
          fun H' z => ⟨m, Nat.lt_succ_self m, z⟩, fun x H' y => ?_⟩
        obtain ⟨g3, R3, r3⟩ := jk.2 x H' y
        dsimp only at a2
        cases hbv : b v (wipeE e (own.map (·.2))) with
        | none => rw [hbv] at a2; exact a2.elim
        | some e3 =>
          rw [hbv] at a2
          have g4 := g2.trans (g3.reh hh)
          refine ok ρ2 H' h2 _ _ v x e3 _ R3 ((E1.wipe _).mono ((g2.mvh hh hD).trans g3.mv)) r3 hbv fun σ3 E3 w3 => ⟨?_, ρ2, e3, h2, R3, E3, ?_⟩
          · rw [w3]
            have : ∀ vs : List Nat, L2.wipe (L2.wipe σ vs) vs = L2.wipe σ vs := by
              intro vs
              have key : ∀ (ws : List Nat) (τ : St), (∀ i ∈ ws, ∀ y, τ[i]? ≠ some (some y)) → L2.wipe τ ws = τ := by
                intro ws
                induction ws with
                | nil => intro _ _; rfl
                | cons w ws ih =>
                  intro τ hτ
                  show (L2.wipe τ ws).set w none = τ
                  rw [ih τ fun i hi => hτ i (List.mem_cons_of_mem _ hi)]
                  apply List.ext_getElem?
                  intro n
                  by_cases hn : w = n
                  · subst hn
                    by_cases hl : w < τ.length
                    · rw [List.getElem?_set_self hl]
                      have := hτ w List.mem_cons_self
                      cases q : τ[w]? with
                      | none => rw [List.getElem?_eq_none_iff] at q; omega
                      | some o =>
                        cases o with
                        | none => rfl
                        | some y => exact absurd q (this y)
                    · rw [List.getElem?_eq_none_iff.mpr (by simpa using hl), List.getElem?_eq_none_iff.mpr (by simpa using hl)]
                  · rw [List.getElem?_set_ne hn]
              exact key vs _ fun i hi y hy => (wipe_some hy).2 hi
            exact this _
          · dsimp only at a2
            obtain ⟨cb, hb1, ht, a3⟩ := a2.noX
            rw [ht]
            refine fun ρ5 v5 H5 s5 R5 r5 => ?_
            have g5 := g4.trans (s5.reh (g3.hd.trans hh))
            have hh5 : ρ5.hd = D :: ρ1.hd := s5.hd.trans hh
            have off5 : Off ρ5 D := fun i z => by
              rcases s5.nw i D z with ⟨jj, q⟩ | q
              · exact nD jj q
              · rw [g3.lst hDc nD] at q; cases q
            have hD5 : H5 D = some (.lst us) := s5.lst (g3.lst hDc nD) nD
            split at a3
            · obtain rfl := r5.bl_
              refine ⟨true, rfl, ?_⟩
              refine itT rfl ?_
              obtain ⟨yv, hb2, hf, a4⟩ := a3.noX
              refine ⟨ρ5, e3, hb1, R5, E3.go s5, ?_⟩
              rw [hf]
              refine fun ρ6 v6 H6 s6 R6 r6 => ?_
              have off6 : Off ρ6 D := fun i z => by
                rcases s6.nw i D z with ⟨jj, q⟩ | q
                · exact off5 jj q
                · rw [hD5] at q; cases q
              have hD6 : H6 D = some (.lst us) := s6.lst hD5 off5
              have hh6 : ρ6.hd = D :: ρ1.hd := s6.hd.trans hh5
              have mD6 : D ∈ ρ6.hd := by rw [hh6]; exact List.mem_cons_self
              have rl := rA.length
              split at a4
              · rename_i hl
                refine ⟨us, hD6, by rw [sizeLine_eq]; omega, ρ6, hb2, acc ++ [yv], us ++ [v6], hh6, (g5.trans (s6.reh hh5)).tmp hD hD6, R6.off off6 mD6 hD6 True.intro, upd_same, off6, ?_, a4⟩
                exact (((rA.go g3).go (s5.trans s6)).app (.one r6)).mono (.hid mD6 hD6 True.intro)
              · exact a4.elim
            · obtain rfl := r5.bl_
              refine ⟨false, rfl, ?_⟩
              refine itF rfl ?_
              exact ⟨ρ5, hb1, acc, us, hh5, g5, R5, hD5, off5, (rA.go g3).go s5, a3⟩
            · exact a3.elim
theorem sl_comp (hc : X.calm = true) (hN : X.N.Nodup) (hi : SI T X W tg iter src) (bk : BlkOk X.N X.env.scope scope own)
    (hg : ∀ (s : Shared) (H : Hp) (C : Addr) (cl : List (Str × Addr)) (fp : List Addr), PG (X.blk s H scope (compEnvC scope cl C X.env) fp) tg g)
    (ok : GOk (sy T X) (own.map (·.2)) g b)
    (ht : ∀ (s : Shared) (H : Hp) (C : Addr) (cl : List (Str × Addr)) (fp : List Addr), STs T (X.blk s H scope (compEnvC scope cl C X.env) fp) W0 ifs tt)
    (he : ∀ (s : Shared) (H : Hp) (C : Addr) (cl : List (Str × Addr)) (fp : List Addr), SE T (X.blk s H scope (compEnvC scope cl C X.env) fp) W0 elt f)
    (hs : ∀ x, foldedSetIterable iter X.env x = pure x := by intro _; rfl) :
    SL T X W (.ListComp elt [⟨tg, iter, ifs, 0⟩] scope pos) (lComp (own.map (·.2)) src b tt f) :=
  (pe_lc hc hN hi bk hg ht he hs).imp fun σ H Q q => lc_imp ok q
end
end Lad
end
section
set_option maxRecDepth 100000
set_option maxHeartbeats 1000000
namespace Lad
open PySem L2
mutual
def Val.und (n : Nat) : Val → Bool
  | .tup xs => undL n xs
  | .lst xs => undL n xs
  | .dic _ _ vs => undL n vs
  | .obj _ _ vs => undL n vs
  | .ref i => Nat.blt i n
  | .exn _ d => d.und n
  | _ => true
def undL (n : Nat) : List Val → Bool
  | [] => true
  | x :: xs => x.und n && undL n xs
end
def undKv (n : Nat) : List (Val × Val) → Bool
  | [] => true
  | (_, x) :: xs => x.und n && undKv n xs
mutual
theorem nk_rep {S S' : Sy} {ρ ρ' : Own} {H : Hp} (hK : S'.K = S.K) : ∀ (n : Nat) {d : Val} {k : NestedKey} {v : V}, nkF n d = some k → Rep S ρ H d v → Rep S' ρ' H d v
  | n + 1, .tup xs, _, _, e, .tup sq r => by
    unfold nkF at e
    cases hk : nkAll (nkF n) xs with
    | none => rw [hk] at e; cases e
    | some ks => exact .tup (by rw [hK]; exact sq) (nk_reps hK n hk r)
  | 0, .tup xs, _, _, e, _ => by cases e
  | _, .int i, _, _, _, .int _ => .int i
  | _, .bl i, _, _, _, .bl _ => .bl i
  | _, .str i, _, _, _, .str _ => .str i
  | _, .non, _, _, _, .non => .non
  | 0, .lst _, _, _, e, _ => by cases e
  | n + 1, .lst _, _, _, e, _ => by cases e
  | 0, .dic _ _ _, _, _, e, _ => by cases e
  | n + 1, .dic _ _ _, _, _, e, _ => by cases e
  | 0, .obj _ _ _, _, _, e, _ => by cases e
  | n + 1, .obj _ _ _, _, _, e, _ => by cases e
  | 0, .ref _, _, _, e, _ => by cases e
  | n + 1, .ref _, _, _, e, _ => by cases e
  | 0, .exn _ _, _, _, e, _ => by cases e
  | n + 1, .exn _ _, _, _, e, _ => by cases e
theorem nk_reps {S S' : Sy} {ρ ρ' : Own} {H : Hp} (hK : S'.K = S.K) : ∀ (n : Nat) {ds : List Val} {ks : List NestedKey} {vs : List V}, nkAll (nkF n) ds = some ks → Reps S ρ H ds vs → Reps S' ρ' H ds vs
  | _, [], _, _, _, .nil => .nil
  | n, d :: ds, _, _, e, .cons r t => by
    unfold nkAll at e
    cases h1 : nkF n d with
    | none => rw [h1] at e; cases e
    | some k =>
      cases h2 : nkAll (nkF n) ds with
      | none => rw [h1, h2] at e; cases e
      | some ks => exact .cons (nk_rep hK n h1 r) (nk_reps hK n h2 t)
end
theorem toNK_rep {S S' : Sy} {ρ ρ' : Own} {H : Hp} (hK : S'.K = S.K) {d : Val} {k : NestedKey} {v : V} (e : toNK d = some k) (r : Rep S ρ H d v) : Rep S' ρ' H d v := by
  unfold toNK at e
  cases d with
  | tup xs => exact nk_rep hK 8 e r
  | _ => cases e
theorem toNK_reps {S S' : Sy} {ρ ρ' : Own} {H : Hp} (hK : S'.K = S.K) : ∀ {ds : List Val} {vs : List V} {ps : List (NestedKey × Addr × V)}, ds.map toNK = ps.map (fun p => some p.1) → Reps S ρ H ds vs → Reps S' ρ' H ds vs
  | [], _, _, _, .nil => .nil
  | d :: ds, _, [], e, _ => by cases e
  | d :: ds, _, p :: ps, e, .cons r t => by
    rw [List.map_cons, List.map_cons] at e
    injection e with e1 e2
    exact .cons (toNK_rep hK e1 r) (toNK_reps hK e2 t)
theorem KvN.split {S : Sy} {ρ : Own} {H : Hp} : ∀ {d : List (Val × Val)} {v : List (NestedKey × Addr × V)}, KvN S ρ H d v → Reps S ρ H (d.map (·.1)) (v.map (fun p => V.ref p.2.1)) ∧ (d.map (·.1)).map toNK = v.map (fun p => some p.1) ∧ Reps S ρ H (d.map (·.2)) (v.map (·.2.2))
  | _, _, .nil => ⟨.nil, rfl, .nil⟩
  | _, _, .cons r e q t => ⟨.cons r t.split.1, by simp [t.split.2.1, e], .cons q t.split.2.2⟩
theorem KvN.zip {S : Sy} {ρ : Own} {H : Hp} : ∀ {ks ds : List Val} {ps : List (NestedKey × Addr × V)}, Reps S ρ H ks (ps.map (fun p => V.ref p.2.1)) → ks.map toNK = ps.map (fun p => some p.1) → Reps S ρ H ds (ps.map (·.2.2)) → KvN S ρ H (ks.zip ds) ps
  | [], _, [], _, _, _ => .nil
  | k :: ks, _, [], _, e, _ => by cases e
  | [], _, p :: ps, _, e, _ => by cases e
  | k :: ks, [], p :: ps, _, _, r => by cases r
  | k :: ks, d :: ds, p :: ps, .cons r1 t1, e, .cons r2 t2 => by
    rw [List.map_cons, List.map_cons] at e
    injection e with e1 e2
    exact .cons r1 e1 r2 (KvN.zip t1 e2 t2)
def undFs (n : Nat) : List (Nat × Val) → Bool
  | [] => true
  | (_, x) :: xs => x.und n && undFs n xs
def Ob.und (n : Nat) : Ob → Bool
  | .lst xs => undL n xs
  | .fro _ => true
  | .dcK kvs => undKv n kvs
  | .dcT kvs => undKv n kvs
  | .dcL kvs => undKv n kvs
  | .dcM kvs => undKv n kvs
  | .ins _ fs => undFs n fs
/-- the first n things of the heap name one another alone -/
def shut (n : Nat) : Nat → Hea → Option Hea
  | 0, _ => some []
  | _ + 1, [] => none
  | k + 1, o :: h => if o.und n = true then (shut n k h).map (o :: ·) else none
theorem Sub.cut {ρ ρ' : Own} (s : Sub ρ ρ') {i : Nat} {a : Addr} (hi : Nat.blt i ρ.nm.length = true) (e : ρ'.nm[i]? = some a) : ρ.nm[i]? = some a := by
  have lt : i < ρ.nm.length := Nat.le_of_ble_eq_true hi
  have := s i _ (List.getElem?_eq_getElem lt)
  rw [e] at this
  cases this
  exact List.getElem?_eq_getElem lt
/-- ρ' has more names than ρ -/
structure Less (ρ ρ' : Own) : Prop where
  sub : Sub ρ ρ'
  hd : ρ'.hd = ρ.hd
theorem Less.fz {ρ ρ' : Own} (s : Less ρ ρ') {a : Addr} (f : Fz ρ' a) : Fz ρ a := ⟨fun i z => f.1 i (s.sub _ _ z), by rw [← s.hd]; exact f.2⟩
mutual
theorem Rep.cut {S : Sy} {ρ ρ' : Own} {H : Hp} (s : Less ρ ρ') : ∀ {d : Val} {v : V}, d.und ρ.nm.length = true → Rep S ρ' H d v → Rep S ρ H d v
  | _, _, _, .non => .non
  | _, _, _, .bl b => .bl b
  | _, _, _, .int i => .int i
  | _, _, _, .str z => .str z
  | _, _, h, .tup q r => .tup q (Reps.cut s (by simpa only [Val.und] using h) r)
  | _, _, h, .lst f q r => .lst (s.fz f) q (Reps.cut s (by simpa only [Val.und] using h) r)
  | _, _, h, .dicK f q e1 e2 r => .dicK (s.fz f) q e1 e2 (Reps.cut s (by simpa only [Val.und] using h) r)
  | _, _, h, .dicT f q e1 e2 r e3 r2 => .dicT (s.fz f) q e1 e2 (toNK_reps rfl e2 r) e3 (Reps.cut s (by simpa only [Val.und] using h) r2)
  | _, _, h, .obj f q e1 e2 r => .obj (s.fz f) q e1 e2 (Reps.cut s (by simpa only [Val.und] using h) r)
  | _, _, h, .ref q => .ref (s.sub.cut (by simpa only [Val.und] using h) q)
  | _, _, h, .exn h1 h2 r => .exn h1 h2 (Rep.cut s (by simpa only [Val.und] using h) r)
theorem Reps.cut {S : Sy} {ρ ρ' : Own} {H : Hp} (s : Less ρ ρ') : ∀ {d : List Val} {v : List V}, undL ρ.nm.length d = true → Reps S ρ' H d v → Reps S ρ H d v
  | _, _, _, .nil => .nil
  | _, _, h, .cons r t => by
    simp only [undL, Bool.and_eq_true] at h
    exact .cons (Rep.cut s h.1 r) (Reps.cut s h.2 t)
end
theorem KvR.cut {S : Sy} {ρ ρ' : Own} {H : Hp} {κ : Type} {kd : κ → Val} (s : Less ρ ρ') : ∀ {d : List (Val × Val)} {v : List (κ × V)}, undKv ρ.nm.length d = true → KvR S ρ' H kd d v → KvR S ρ H kd d v
  | _, _, _, .nil => .nil
  | _, _, h, .cons r t => by
    simp only [undKv, Bool.and_eq_true] at h
    exact .cons (r.cut s h.1) (KvR.cut s h.2 t)
theorem KvN.cut {S : Sy} {ρ ρ' : Own} {H : Hp} (s : Less ρ ρ') : ∀ {d : List (Val × Val)} {v : List (NestedKey × Addr × V)}, undKv ρ.nm.length d = true → KvN S ρ' H d v → KvN S ρ H d v
  | _, _, _, .nil => .nil
  | _, _, h, .cons r e q t => by
    simp only [undKv, Bool.and_eq_true] at h
    exact .cons (toNK_rep rfl e r) e (q.cut s h.1) (KvN.cut s h.2 t)
theorem FsR.cut {S : Sy} {ρ ρ' : Own} {H : Hp} (s : Less ρ ρ') : ∀ {d : List (Nat × Val)} {v : List (Str × V)}, undFs ρ.nm.length d = true → FsR S ρ' H d v → FsR S ρ H d v
  | _, _, _, .nil => .nil
  | _, _, h, .cons r t => by
    simp only [undFs, Bool.and_eq_true] at h
    exact .cons (r.cut s h.1) (FsR.cut s h.2 t)
theorem ObR.cut {S : Sy} {ρ ρ' : Own} {H : Hp} (s : Less ρ ρ') {o : Ob} {a : Addr} (h : o.und ρ.nm.length = true) (r : ObR S ρ' H o a) : ObR S ρ H o a := by
  cases r with
  | lst h1 h2 => exact .lst h1 (h2.cut s h)
  | fro h1 => exact .fro h1
  | dcK h1 h2 => exact .dcK h1 (h2.cut s h)
  | dcT h1 h2 => exact .dcT h1 (h2.cut s h)
  | dcL h1 h2 => exact .dcL h1 (h2.cut s h)
  | dcM h1 h2 => exact .dcM h1 (h2.cut s h)
  | ins h1 h2 => exact .ins h1 (h2.cut s h)
theorem shut_at {n : Nat} : ∀ {k : Nat} {h g : Hea}, shut n k h = some g → g.length = k ∧ ∀ (i : Nat) (o : Ob), g[i]? = some o → h[i]? = some o ∧ o.und n = true
  | 0, h, g, e => by
    cases h <;> (cases e; exact ⟨rfl, fun i o q => by simp at q⟩)
  | k + 1, [], g, e => by cases e
  | k + 1, o :: h, g, e => by
    unfold shut at e
    split at e
    · rename_i hb
      cases q : shut n k h with
      | none => rw [q] at e; cases e
      | some g2 =>
        rw [q] at e
        cases e
        obtain ⟨l, z⟩ := shut_at q
        refine ⟨by simp [l], fun i o' e' => ?_⟩
        cases i with
        | zero => simp at e'; subst e'; exact ⟨rfl, hb⟩
        | succ i => simp at e' ⊢; exact z i o' e'
    · cases e
theorem Rel.cut {S : Sy} {ρ ρ' : Own} {H H' : Hp} {h h' g : Hea} (R : Rel S ρ h H) (s : Less ρ ρ') (R' : Rel S ρ' h' H') (e : shut h.length h.length h' = some g) : Rel S ρ g H' := by
  obtain ⟨l, z⟩ := shut_at e
  have hl := R.len
  refine ⟨by omega, R.inj, fun i o a e1 e2 => ?_, fun a m => ?_⟩
  · obtain ⟨e3, e4⟩ := z i o e1
    exact (R'.ob i o a e3 (s.sub _ _ e2)).cut s (by rw [← hl]; exact e4)
  · obtain ⟨h1, h2⟩ := R'.hid a (by rw [s.hd]; exact m)
    exact ⟨h1, fun i z => h2 i (s.sub _ _ z)⟩
def frz : Nat → Nat → Hea → Val → Option Val
  | _, _, _, .non => some .non
  | _, _, _, .bl b => some (.bl b)
  | _, _, _, .int i => some (.int i)
  | _, _, _, .str x => some (.str x)
  | 0, _, _, _ => none
  | f + 1, n, h, .tup xs => (mapO (frz f n h) xs).map .tup
  | f + 1, n, h, .lst xs => (mapO (frz f n h) xs).map .lst
  | f + 1, n, h, .dic t ks vs => (mapO (frz f n h) vs).map (.dic t ks)
  | f + 1, n, h, .obj c ns vs => (mapO (frz f n h) vs).map (.obj c ns)
  | f + 1, n, h, .exn c d => (frz f n h d).map (.exn c)
  | f + 1, n, h, .ref i => if Nat.blt i n = true then some (.ref i) else match h[i]? with
    | some (.lst xs) => (mapO (frz f n h) xs).map .lst
    | some (.dcK kvs) => (mapO (frz f n h) (kvs.map (·.2))).map (.dic false (kvs.map (·.1)))
    | some (.dcT kvs) => (mapO (frz f n h) (kvs.map (·.2))).map (.dic true (kvs.map (·.1)))
    | some (.dcL kvs) => (mapO (frz f n h) (kvs.map (·.2))).map (.dic false (kvs.map (·.1)))
    | some (.dcM kvs) => (mapO (frz f n h) (kvs.map (·.2))).map (.dic true (kvs.map (·.1)))
    | some (.ins c fs) => (mapO (frz f n h) (fs.map (·.2))).map (.obj c (fs.map (·.1)))
    | _ => none
theorem KvR.split {S : Sy} {ρ : Own} {H : Hp} {κ : Type} {kd : κ → Val} : ∀ {d : List (Val × Val)} {v : List (κ × V)}, KvR S ρ H kd d v → d.map (·.1) = v.map (fun p => kd p.1) ∧ Reps S ρ H (d.map (·.2)) (v.map (·.2))
  | _, _, .nil => ⟨rfl, .nil⟩
  | _, _, .cons r t => ⟨by simp [t.split.1], .cons r t.split.2⟩
theorem FsR.split {S : Sy} {ρ : Own} {H : Hp} : ∀ {d : List (Nat × Val)} {v : List (Str × V)}, FsR S ρ H d v → v.map (·.1) = (d.map (·.1)).map S.nm ∧ Reps S ρ H (d.map (·.2)) (v.map (·.2))
  | _, _, .nil => ⟨rfl, .nil⟩
  | _, _, .cons r t => ⟨by simp [t.split.1], .cons r t.split.2⟩
section
variable {S : Sy} {ρ ρ' : Own} {H : Hp} {h : Hea}
theorem mapO_frz {n f : Nat} (ih : ∀ (d d' : Val) (v : V), Rep S ρ' H d v → frz f n h d = some d' → Rep S ρ H d' v) : ∀ (xs ys : List Val) (vs : List V), Reps S ρ' H xs vs → mapO (frz f n h) xs = some ys → Reps S ρ H ys vs
  | [], _, _, .nil, e => by cases e; exact .nil
  | x :: xs, _, _, .cons r t, e => by
    unfold mapO at e
    split at e
    · rename_i y ys h1 h2
      cases e
      exact .cons (ih _ _ _ r h1) (mapO_frz ih xs _ _ t h2)
    · cases e
theorem map_some {α β : Type} {o : Option α} {g : α → β} {b : β} (e : o.map g = some b) : ∃ a, o = some a ∧ b = g a := by
  cases o with
  | none => cases e
  | some a => cases e; exact ⟨a, rfl, rfl⟩
theorem frz_ok (s : Less ρ ρ') (R : Rel S ρ' h H) : ∀ (f : Nat) (d d' : Val) (v : V), Rep S ρ' H d v → frz f ρ.nm.length h d = some d' → Rep S ρ H d' v := by
  intro f
  induction f with
  | zero =>
    intro d d' v r e
    cases r <;> simp only [frz] at e <;> cases e <;> constructor
  | succ f ih =>
    intro d d' v r e
    cases r with
    | non => simp only [frz] at e; cases e; exact .non
    | bl b => simp only [frz] at e; cases e; exact .bl b
    | int b => simp only [frz] at e; cases e; exact .int b
    | str b => simp only [frz] at e; cases e; exact .str b
    | tup q t =>
      simp only [frz] at e
      obtain ⟨ys, e1, rfl⟩ := map_some e
      exact .tup q (mapO_frz ih _ _ _ t e1)
    | lst w q t =>
      simp only [frz] at e
      obtain ⟨ys, e1, rfl⟩ := map_some e
      exact .lst (s.fz w) q (mapO_frz ih _ _ _ t e1)
    | dicK w q e2 e3 t =>
      simp only [frz] at e
      obtain ⟨ys, e1, rfl⟩ := map_some e
      exact .dicK (s.fz w) q e2 e3 (mapO_frz ih _ _ _ t e1)
    | dicT w q e2 e3 t e4 t2 =>
      simp only [frz] at e
      obtain ⟨ys, e1, rfl⟩ := map_some e
      exact .dicT (s.fz w) q e2 e3 (toNK_reps rfl e3 t) e4 (mapO_frz ih _ _ _ t2 e1)
    | obj w q e2 e3 t =>
      simp only [frz] at e
      obtain ⟨ys, e1, rfl⟩ := map_some e
      exact .obj (s.fz w) q e2 e3 (mapO_frz ih _ _ _ t e1)
    | exn h1 h2 r =>
      simp only [frz] at e
      obtain ⟨y, e1, rfl⟩ := map_some e
      exact .exn h1 h2 (ih _ _ _ r e1)
    | @ref i a ea =>
      simp only [frz] at e
      split at e
      · rename_i hb
        cases e
        exact .ref (s.sub.cut hb ea)
      · rename_i hb
        have fa : Fz ρ a := by
          refine ⟨fun j z => ?_, fun m => ?_⟩
          · have := R.inj j i a (s.sub _ _ z) ea
            subst this
            exact hb (Nat.ble_eq_true_of_le (List.getElem?_eq_some_iff.mp z).1)
          · exact (R.hid a (by rw [s.hd]; exact m)).2 i ea
        split at e
        · rename_i xs hx
          obtain ⟨ys, e1, rfl⟩ := map_some e
          have o := R.ob i _ a hx ea
          cases o with
          | lst h1 h2 => exact .lst fa h1 (mapO_frz ih _ _ _ h2 e1)
        · rename_i xs hx
          obtain ⟨ys, e1, rfl⟩ := map_some e
          have o := R.ob i _ a hx ea
          cases o with
          | dcK h1 h2 => exact .dicK fa (.inl h1) h2.split.1 rfl (mapO_frz ih _ _ _ h2.split.2 e1)
        · rename_i xs hx
          obtain ⟨ys, e1, rfl⟩ := map_some e
          have o := R.ob i _ a hx ea
          cases o with
          | dcT h1 h2 => exact .dicT fa (.inl h1) rfl h2.split.2.1 (toNK_reps rfl h2.split.2.1 h2.split.1) rfl (mapO_frz ih _ _ _ h2.split.2.2 e1)
        · rename_i xs hx
          obtain ⟨ys, e1, rfl⟩ := map_some e
          have o := R.ob i _ a hx ea
          cases o with
          | dcL h1 h2 => exact .dicK fa (.inr ⟨_, h1⟩) h2.split.1 rfl (mapO_frz ih _ _ _ h2.split.2 e1)
        · rename_i xs hx
          obtain ⟨ys, e1, rfl⟩ := map_some e
          have o := R.ob i _ a hx ea
          cases o with
          | dcM h1 h2 => exact .dicT fa (.inr ⟨_, h1⟩) rfl h2.split.2.1 (toNK_reps rfl h2.split.2.1 h2.split.1) rfl (mapO_frz ih _ _ _ h2.split.2.2 e1)
        · rename_i c fs hx
          obtain ⟨ys, e1, rfl⟩ := map_some e
          have o := R.ob i _ a hx ea
          cases o with
          | ins h1 h2 => exact .obj fa h1 h2.split.1 rfl (mapO_frz ih _ _ _ h2.split.2 e1)
        · cases e
end
/-- the end of a call: garbage is dropped, what is given back is changed no more -/
def fin (h : Hea) (d : Val) (h' : Hea) : Res Val := if h'.length = h.length then .ok d h' else match shut h.length h.length h' with
  | none => .ok d h'
  | some g => match frz 40 h.length h' d with
    | some d' => .ok d' g
    | none => .ok d h'
/-- the end of a call that gives back a new thing to be changed -/
def finK (h : Hea) (d : Val) (h' : Hea) : Res Val := if h'.length = h.length then .ok d h' else match shut h.length h.length h' with
  | none => .ok d h'
  | some g => match d with
    | .ref i => match h'[i]? with
      | some o => if o.und h.length = true ∧ h.length ≤ i then .ok (.ref h.length) (g ++ [o]) else .ok d h'
      | _ => .ok d h'
    | _ => .ok d h'
def FinOk (fn : Hea → Val → Hea → Res Val) : Prop := ∀ (S : Sy) (ρ : Own) (H : Hp) (h h' : Hea) (d : Val) (Q : VK) (W : XK), Rel S ρ h H → Aft S ρ H (fn h d h') Q W → Aft S ρ H (.ok d h') Q W
theorem Go.less {S : Sy} {ρ ρ1 : Own} {H H1 : Hp} (s : Go S ρ H ρ1 H1) : Less ρ ρ1 := ⟨s.sub, s.hd⟩
theorem Go.drop {S : Sy} {ρ ρ1 : Own} {H H1 : Hp} (s : Go S ρ H ρ1 H1) : Go S ρ H ρ H1 := ⟨.rfl, s.kp, s.fr, fun i _ z => .inl ⟨i, z⟩, Eq.refl _⟩
theorem fin_ok : FinOk fin := by
  intro S ρ H h h' d Q W R a
  unfold fin at a
  have hl := R.len
  split at a
  · exact a
  · split at a
    · exact a
    · rename_i g hg
      split at a
      · rename_i d' hd
        intro ρ1 v H1 s R1 r
        exact a ρ v H1 s.drop (R.cut s.less R1 hg) (frz_ok s.less R1 _ _ _ _ r (by rw [← hl]; exact hd))
      · exact a
section
variable {S : Sy} {ρ ρ' : Own} {H : Hp} {i : Nat} {p : Addr}
theorem Less.fzA (s : Less ρ ρ') (ep : ρ'.nm[i]? = some p) {a : Addr} (f : Fz ρ' a) : Fz (ρ.add p) a := (s.fz f).add fun z => f.1 i (by rw [z]; exact ep)
mutual
theorem Rep.toAdd (s : Less ρ ρ') (ep : ρ'.nm[i]? = some p) : ∀ {d : Val} {v : V}, d.und ρ.nm.length = true → Rep S ρ' H d v → Rep S (ρ.add p) H d v
  | _, _, _, .non => .non
  | _, _, _, .bl b => .bl b
  | _, _, _, .int i => .int i
  | _, _, _, .str z => .str z
  | _, _, h, .tup q r => .tup q (Reps.toAdd s ep (by simpa only [Val.und] using h) r)
  | _, _, h, .lst f q r => .lst (s.fzA ep f) q (Reps.toAdd s ep (by simpa only [Val.und] using h) r)
  | _, _, h, .dicK f q e1 e2 r => .dicK (s.fzA ep f) q e1 e2 (Reps.toAdd s ep (by simpa only [Val.und] using h) r)
  | _, _, h, .dicT f q e1 e2 r e3 r2 => .dicT (s.fzA ep f) q e1 e2 (toNK_reps rfl e2 r) e3 (Reps.toAdd s ep (by simpa only [Val.und] using h) r2)
  | _, _, h, .obj f q e1 e2 r => .obj (s.fzA ep f) q e1 e2 (Reps.toAdd s ep (by simpa only [Val.und] using h) r)
  | _, _, h, .ref q => .ref (Sub.app _ _ (s.sub.cut (by simpa only [Val.und] using h) q))
  | _, _, h, .exn h1 h2 r => .exn h1 h2 (Rep.toAdd s ep (by simpa only [Val.und] using h) r)
theorem Reps.toAdd (s : Less ρ ρ') (ep : ρ'.nm[i]? = some p) : ∀ {d : List Val} {v : List V}, undL ρ.nm.length d = true → Reps S ρ' H d v → Reps S (ρ.add p) H d v
  | _, _, _, .nil => .nil
  | _, _, h, .cons r t => by
    simp only [undL, Bool.and_eq_true] at h
    exact .cons (Rep.toAdd s ep h.1 r) (Reps.toAdd s ep h.2 t)
end
theorem KvR.toAdd {κ : Type} {kd : κ → Val} (s : Less ρ ρ') (ep : ρ'.nm[i]? = some p) : ∀ {d : List (Val × Val)} {v : List (κ × V)}, undKv ρ.nm.length d = true → KvR S ρ' H kd d v → KvR S (ρ.add p) H kd d v
  | _, _, _, .nil => .nil
  | _, _, h, .cons r t => by
    simp only [undKv, Bool.and_eq_true] at h
    exact .cons (r.toAdd s ep h.1) (KvR.toAdd s ep h.2 t)
theorem KvN.toAdd (s : Less ρ ρ') (ep : ρ'.nm[i]? = some p) : ∀ {d : List (Val × Val)} {v : List (NestedKey × Addr × V)}, undKv ρ.nm.length d = true → KvN S ρ' H d v → KvN S (ρ.add p) H d v
  | _, _, _, .nil => .nil
  | _, _, h, .cons r e q t => by
    simp only [undKv, Bool.and_eq_true] at h
    exact .cons (toNK_rep rfl e r) e (q.toAdd s ep h.1) (KvN.toAdd s ep h.2 t)
theorem FsR.toAdd (s : Less ρ ρ') (ep : ρ'.nm[i]? = some p) : ∀ {d : List (Nat × Val)} {v : List (Str × V)}, undFs ρ.nm.length d = true → FsR S ρ' H d v → FsR S (ρ.add p) H d v
  | _, _, _, .nil => .nil
  | _, _, h, .cons r t => by
    simp only [undFs, Bool.and_eq_true] at h
    exact .cons (r.toAdd s ep h.1) (FsR.toAdd s ep h.2 t)
theorem ObR.toAdd (s : Less ρ ρ') (ep : ρ'.nm[i]? = some p) {o : Ob} {a : Addr} (h : o.und ρ.nm.length = true) (r : ObR S ρ' H o a) : ObR S (ρ.add p) H o a := by
  cases r with
  | lst h1 h2 => exact .lst h1 (h2.toAdd s ep h)
  | fro h1 => exact .fro h1
  | dcK h1 h2 => exact .dcK h1 (h2.toAdd s ep h)
  | dcT h1 h2 => exact .dcT h1 (h2.toAdd s ep h)
  | dcL h1 h2 => exact .dcL h1 (h2.toAdd s ep h)
  | dcM h1 h2 => exact .dcM h1 (h2.toAdd s ep h)
  | ins h1 h2 => exact .ins h1 (h2.toAdd s ep h)
end
theorem finK_ok : FinOk finK := by
  intro S ρ H h h' d Q W R a
  unfold finK at a
  have hl := R.len
  split at a
  · exact a
  · split at a
    · exact a
    · rename_i g hg
      split at a
      · rename_i i
        split at a
        · rename_i o ho
          split at a
          · rename_i hu
            intro ρ1 v H1 s R1 r
            obtain ⟨p, rfl, ep⟩ := r.ref_
            have off : Off ρ p := fun j z => by
              have := R1.inj j i p (s.sub _ _ z) ep
              subst this
              have := (List.getElem?_eq_some_iff.mp z).1
              omega
            have hp : H p = none := by
              rcases s.nw i p ep with ⟨j, z⟩ | z
              · exact (off j z).elim
              · exact z
            have ob := R1.ob i _ p ho ep
            have Rb := R.cut s.less R1 hg
            have hnh : p ∉ ρ.hd := (R.fz hp).2
            -- nothing else stands for p
            have lm : ∀ {o : Ob} {a : Addr}, o.und ρ.nm.length = true → ObR S ρ1 H1 o a → ObR S (ρ.add p) H1 o a := by
              intro o a hu r
              exact ObR.toAdd s.less ep hu r
            exact a (ρ.add p) _ H1 (s.drop.adopt hp) (Rel.grow Rb.len Rb.inj off (fun j o' b e1 e2 => by
              obtain ⟨e3, e4⟩ := (shut_at hg).2 j o' e1
              exact lm (by rw [← hl]; exact e4) (R1.ob j o' b e3 (s.sub _ _ e2))) (lm (by rw [← hl]; exact hu.1) ob) Rb.hid hnh) (.ref (by rw [hl]; exact add_at))
          · exact a
        · exact a
      · exact a
def startE (n : Nat) (ds : List Val) : En := ds.map some ++ List.replicate (n - ds.length) none
def runG (fn : Hea → Val → Hea → Res Val) (np ns : Nat) (body : En → Hea → SRes) (ds : List Val) (h : Hea) : Res Val := if ds.length = np then
    (match body (startE ns ds) h with
      | .rt d h' => fn h d h'
      | .nx _ h' => fn h .non h'
      | .exc c d _ h' => if h'.length = h.length then .exc c d h' else (match shut h.length h.length h' with
        | some g => (match frz 40 h.length h' d with
          | some d' => .exc c d' g
          | none => .exc c d h')
        | none => .exc c d h')
      | _ => .stuck)
  else .stuck
abbrev runB := runG fin
abbrev runK := runG finK
def spEv (S : Sy) (cf : List Val → Hea → Res Val) : Sp := fun vs H Q E => ∃ ρ h ds, Rel S ρ h H ∧ Reps S ρ H ds vs ∧ Aft S ρ H (cf ds h) Q E
theorem ER.start {S : Sy} {ρ : Own} {H : Hp} {n : Nat} : ∀ {ds : List Val} {vs : List V}, Reps S ρ H ds vs → ER S ρ H (ds.map some ++ List.replicate n none) (vs.map some ++ List.replicate n none)
  | _, _, .nil => by
    induction n with
    | zero => exact .nil
    | succ n ih => exact .cons (fun x e => nomatch e) ih
  | _, _, .cons r t => .cons (fun x e => ⟨_, rfl, by cases e; exact r⟩) (ER.start t)
theorem runB_ok {S : Sy} {fn : Hea → Val → Hea → Res Val} (fo : FinOk fn) {np : Nat} {N : List Str} {fb : En → Hea → SRes} {vs : List V} {H : Hp} {Q : VK} {E : XK} (q : spEv S (runG fn np N.length fb) vs H Q E) :
    vs.length = np ∧ tS S (fun c d _ H' => E c d H') fb { nx := fun _ H' => Q .non H', rt := Q } (L2.start N vs) H := by
  obtain ⟨ρ, h, ds, R, r, a⟩ := q
  unfold runG at a
  split at a
  · rename_i hl
    refine ⟨by rw [← r.length]; exact hl, ρ, startE N.length ds, h, R, ?_, ?_⟩
    · unfold startE L2.start
      rw [← r.length]
      exact ER.start r
    · revert a
      cases fb (startE N.length ds) h with
      | nx e h' => exact fun a ρ1 σ1 H1 s R1 E1 => fo _ _ _ _ _ _ _ _ R a ρ1 .non H1 s R1 .non
      | rt d h' => exact fun a ρ1 v H1 s R1 r1 => fo _ _ _ _ _ _ _ _ R a ρ1 v H1 s R1 r1
      | bk e h' => exact fun a => a.elim
      | ct e h' => exact fun a => a.elim
      | stuck => exact fun a => a
      | exc c d e h' =>
        intro a ρ1 v σ1 H1 dx s R1 r1 E1 x
        dsimp only at a
        split at a
        · exact a ρ1 v H1 dx s R1 r1 x
        · split at a
          · rename_i g hg
            split at a
            · rename_i d' hd
              exact a ρ v H1 dx s.drop (R.cut s.less R1 hg) (frz_ok s.less R1 _ _ _ _ r1 (by rw [← R.len]; exact hd)) x
            · exact a ρ1 v H1 dx s R1 r1 x
          · exact a ρ1 v H1 dx s R1 r1 x
  · exact a.elim
/-- a def keeps its promise -/
theorem fn_ok {P : Program} {w : World} {K : PySem.W.Frag} {mg : Str → Option Value} {base : Heap} {T : Tb} {x qual : Str} {st : Stmt} {f : Addr} {fd : FuncData} {N ps : List Str} {k : Nat} {fb : En → Hea → SRes}
    {fn : Hea → Val → Hea → Res Val} (fo : FinOk fn) (F : Fun K x qual st f fd) (Sc : FnScope N ps (defScope st))
    (hb : ∀ (cdv : Value) (A : Around) (outer : List Env) (s : Shared) (H : Hp) (E : XK), Room k (A.deeper (PyProof.Rows.envOfC qual (defScope st) s.heap.objs.size f cdv)) →
      SSs T (cxOf (L2.CX P w) P w K mg base N qual (defScope st) f cdv A outer s H E) (fun c d _ H' => E c d H') (defBody st) fb) :
    FnOk P w K mg base (L2.CX P w) (k + 1) f fd ps (spEv ⟨K, T.ca, T.nm, T.fld, P, w, T.ex⟩ (runG fn ps.length N.length fb)) :=
  F.okX Sc (fun vs H Q E q => (runB_ok fo q).1) fun cdv A outer s H vs Q E hr q => ⟨_, hb cdv A outer s H E hr, (runB_ok fo q).2⟩
def eCall (cf : List Val → Hea → Res Val) (g : En → Hea → Res (List Val)) : En → Hea → Res Val := fun e h => (g e h).bind cf
section
variable {T : Tb} {X : Cx} {W : WX} {x : Str} {f : Addr} {fd : FuncData} {ps : List Str} {k : Nat} {cf : List Val → Hea → Res Val} {e : Expr} {es : List Expr} {g : En → Hea → Res (List Val)} {p pos : Pos}
theorem se_call (F : FnOk X.prog X.w X.K X.mg X.base (L2.CX X.prog X.w) k f fd ps (spEv (sy T X) cf)) (hr : Room k X.A) (hg : Gl X x) (hm : X.mg x = some (.ref f)) (hk : PySem.W.keepIn X.K (.ref f) = true) (hb : Binds X.K fd ps []) (tk : Takes X W)
    (ha : SA T X W (e :: es) g) (hdb : (x == ("__debug__" : Str)) = false := by decide) (he : starEach (e :: es) X.env = (false, eval e X.env) :: starEach es X.env := by rfl) (hpl : (backTo pos (starEach es X.env)).any (·.1) = false := by rfl) :
    SE T X W (.Call (.Name x p) (e :: es) [] pos) (eCall cf g) :=
  (pe_callS (E := fun σ => WE W σ) F hr hg hm hk hb (fun σ => passAt tk σ) ha hdb he hpl).imp fun σ H Q q => by
    obtain ⟨ρ, e, h, R, E, a⟩ := q
    exact ⟨ρ, e, h, R, E, (AftA.bind a).mono fun vs H1 ⟨ρ1, ds, h1, s, R1, r1, a1⟩ => ⟨ρ1, h1, ds, R1, r1, a1⟩⟩
end
end Lad
end
section
set_option maxRecDepth 100000
set_option maxHeartbeats 1000000
namespace Lad
open PySem L2
section
variable {T : Tb} {X : Cx} {W : WX} {a b c : Expr} {f1 f2 f3 : En → Hea → Res Val} {pos : Pos}
theorem se_chain2 {op op' : CmpOp} {g g' : Hea → Val → Val → Option Val} (ho : OpR X (compareOp op) (rB (sy T X) g)) (ho' : OpR X (compareOp op') (rB (sy T X) g')) (ha : SE T X W a f1) (hb : SE T X W b f2) (hc : SE T X W c f3)
    (hm : lastMarks [op, op'] [b, c] = false := by with_unfolding_all rfl) : SE T X W (.Compare a [op, op'] [b, c] pos) (eChain g g' f1 f2 f3) := (pe_chain ho ho' ha hb hc hm).imp fun σ H Q q => chain_imp q
theorem st_chain2 {op op' : CmpOp} {g g' : Hea → Val → Val → Option Val} (ho : OpR X (compareOp op) (rB (sy T X) g)) (ho' : OpR X (compareOp op') (rB (sy T X) g')) (ha : SE T X W a f1) (hb : SE T X W b f2) (hc : SE T X W c f3)
    (hm : lastMarks [op, op'] [b, c] = false := by with_unfolding_all rfl) : ST T X W (.Compare a [op, op'] [b, c] pos) (eChain g g' f1 f2 f3) := (pt_chain ho ho' ha hb hc hm).imp fun σ H Q q => chain_imp q
end
theorem u65 {A : Around} {k : Nat} (hr : Room k A) : A.units + 65 < cLine := by have := hr.un; omega
/-- a built-in class by its name -/
theorem ty_of {X : Cx} {x : Str} {n : String} {pos : Pos} (hm : X.mg x = none) (hv : bootBuiltins x = some (.type n)) (hg : Gl X x := by rfl) (hn : x ≠ "__name__" := by decide) (hd : (x == ("__debug__" : Str)) = false := by decide) : PE X (.Name x pos) (tC (.ty n)) := pe_bltn hg hm hv rfl hn hd
section
variable {T : Tb} {X : Cx} {W : WX} {x : Str} {id : String} {n : String} {a e : Expr} {es : List Expr} {f : En → Hea → Res Val} {g : En → Hea → Res (List Val)} {p pos : Pos}
/-- a built-in def of plain arguments -/
theorem se_cb {r : Hea → List Val → Option Val} (hc : CallR X (.builtin id) (rC (sy T X) r)) (hm : X.mg x = none) (hv : bootBuiltins x = some (.builtin id)) (ha : SA T X W (e :: es) g) (hg : Gl X x := by rfl) (hn : x ≠ "__name__" := by decide) (hdb : (x == ("__debug__" : Str)) = false := by decide)
    (he : starEach (e :: es) X.env = (false, eval e X.env) :: starEach es X.env := by rfl) (hpl : (backTo pos (starEach es X.env)).any (·.1) = false := by rfl) : SE T X W (.Call (.Name x p) (e :: es) [] pos) (eCB r g) :=
  (pe_callB hc hg hm hv ha hn hdb he hpl).imp fun σ H Q q => cb_imp q
theorem se_ct {r : Hea → List Val → Option Val} (hc : CallR X (.type n) (rC (sy T X) r)) (hm : X.mg x = none) (hv : bootBuiltins x = some (.type n)) (ha : SA T X W (e :: es) g) (hg : Gl X x := by rfl) (hn : x ≠ "__name__" := by decide) (hdb : (x == ("__debug__" : Str)) = false := by decide)
    (he : starEach (e :: es) X.env = (false, eval e X.env) :: starEach es X.env := by rfl) (hpl : (backTo pos (starEach es X.env)).any (·.1) = false := by rfl) : SE T X W (.Call (.Name x p) (e :: es) [] pos) (eCB r g) :=
  (pe_callTy hc hg hm hv ha hn hdb he hpl).imp fun σ H Q q => cb_imp q
/-- of a list or tuple that is a value; of a list made for it -/
theorem se_it {r : List Val → Option Val} (hc : CallR X (.builtin id) (rIt (sy T X) r)) (hm : X.mg x = none) (hv : bootBuiltins x = some (.builtin id)) (ha : SE T X W a f) (hg : Gl X x := by rfl) (hn : x ≠ "__name__" := by decide) (hdb : (x == ("__debug__" : Str)) = false := by decide)
    (he : starEach [a] X.env = (false, eval a X.env) :: starEach [] X.env := by rfl) : SE T X W (.Call (.Name x p) [a] [] pos) (eIt r f) :=
  (pe_callB hc hg hm hv (pa_cons ha pa_nil he) hn hdb he rfl).imp fun σ H Q q => it_imp q
theorem se_ilL {r : List Val → Option Val} (hc : CallR X (.builtin id) (rIl (sy T X) r)) (hm : X.mg x = none) (hv : bootBuiltins x = some (.builtin id)) (ha : SL T X W a g) (hg : Gl X x := by rfl) (hn : x ≠ "__name__" := by decide) (hdb : (x == ("__debug__" : Str)) = false := by decide)
    (he : starEach [a] X.env = (false, eval a X.env) :: starEach [] X.env := by rfl) : SE T X W (.Call (.Name x p) [a] [] pos) (eItL r g) :=
  (pe_callB hc hg hm hv (pa_cons ha pa_nil he) hn hdb he rfl).imp fun σ H Q q => ilL_imp q
theorem se_tit {r : List Val → Option Val} (hc : CallR X (.type n) (rIt (sy T X) r)) (hm : X.mg x = none) (hv : bootBuiltins x = some (.type n)) (ha : SE T X W a f) (hg : Gl X x := by rfl) (hn : x ≠ "__name__" := by decide) (hdb : (x == ("__debug__" : Str)) = false := by decide)
    (he : starEach [a] X.env = (false, eval a X.env) :: starEach [] X.env := by rfl) : SE T X W (.Call (.Name x p) [a] [] pos) (eIt r f) :=
  (pe_callTy hc hg hm hv (pa_cons ha pa_nil he) hn hdb he rfl).imp fun σ H Q q => it_imp q
end
end Lad
end
section
set_option maxRecDepth 100000
set_option maxHeartbeats 2000000
namespace Lad
open PySem PySem.W PySem.Calls PySem.HandSPX
structure MkFacts (nwId inId : String) (tl : List Value) : Prop where
  nw : ∃ Bn inN bmN, ExcBaseFacts Bn nwId inN bmN ∧ tl.contains (.type Bn) = true
  na : tl.contains (.type "AttributeError") = false
  nn : tl.contains (.type "NameError") = false
  ik : builtinKind inId = some .slot
  ir : ∃ B, Manifest.signature? inId = some ⟨.positional, "*", B, .self, [⟨"args", .varPos, false⟩]⟩ ∧ (B != "*") = true
  ip : plainId inId = true
  ie : entryFor table inId = some Builtin.«BaseException.__init__»
theorem MkFacts.of {B nwId inId : String} {tl : List Value} (F : ExcBaseFacts B nwId inId tl) : MkFacts nwId inId tl :=
  ⟨⟨B, inId, tl, F, F.hasB⟩, F.noAttr, F.noName, F.initKind, ⟨B, F.initRow, F.noStar⟩, F.init.plain, F.initEntry⟩
section
variable {prog : Program} {w : World} {A : Around} {E : Value → Shared → Prop} {R : Result → Shared → Prop} {hp : Heap} {g : Array GenState} {dr : Drawn} {tk : Nat} {os : OsState}
variable {nm qn : Str} {C N : Addr} {bs bm bmN : List Value} {hdct : Bool} {sn : List Str} {sub : List Value} {ab : Bool} {col : Option Bool} {dd : Option Addr} {k0 k1 k2 k3 k5 : Option Value} {Bn nwId inN : String}
/-- the class C stands at C; what it stands under -/
abbrev ClsO (hp : Heap) (nm qn : Str) (C N : Addr) (bs bm : List Value) (hdct : Bool) (sn : List Str) (sub : List Value) (ab : Bool) (col : Option Bool) (dd : Option Addr) (k0 k1 k2 k3 k5 : Option Value) (nwId : String) : Prop := hp.get? C = some (excClassObj nm qn C N bs bm hdct sn sub ab col dd k0 k1 k2 k3 k5 nwId)
theorem under {M : Model} {T : String} {b : Bool} {Q : Bool → Shared → Prop} (oC : ClsO hp nm qn C N bs bm hdct sn sub ab col dd k0 k1 k2 k3 k5 nwId) (c : bm.contains (.type T) = b) (q : Q b ⟨hp, g, dr, tk, os⟩) : wpAny M A (isSubtype (.ref C) (.type T)) Q E ⟨hp, g, dr, tk, os⟩ := by
  refine wpAny_isSubtype_exc oC ?_
  rw [List.contains_cons, c]
  exact q
theorem made_new (F : ExcBaseFacts Bn nwId inN bmN) (hB : bm.contains (.type Bn) = true) (nA : bm.contains (.type "AttributeError") = false) (nN : bm.contains (.type "NameError") = false) {us : List Value} (oC : ClsO hp nm qn C N bs bm hdct sn sub ab col dd k0 k1 k2 k3 k5 nwId)
    (q : R (.ok (.ret (.ref (hp.objs.size + 1)))) ⟨(hp.push (kdv_tup us)).push (excO C hp.objs.size), g, dr, tk, os⟩) (hz : us.length ≤ sizeLine) : codeAny (model prog w) A (.builtin nwId ⟨.ref C :: us, []⟩) R ⟨hp, g, dr, tk, os⟩ := by
  have z := F.ends
  refine codeAny_builtinAt F.entry (wpAt_bind ?_)
  refine wpAt_bind (wpAt_stack fun _ _ => wpAt_of_wpAny ?_)
  wp_walk
  refine wpAt_of_wpAny ?_
  rw [F.owner]
  wp_walk using wpAny_madeHere_exc F.canon oC, wpAny_loadPart_at oC, under oC hB, under oC nA, under oC nN
  all_goals (show R _ _; rw [Heap.size_push]; exact q)
theorem made_type (F : ExcBaseFacts Bn nwId inN bmN) (hB : bm.contains (.type Bn) = true) (nA : bm.contains (.type "AttributeError") = false) (nN : bm.contains (.type "NameError") = false) {us : List Value} {fI : Addr} {Q : Fin → Shared → Prop} (oC : ClsO hp nm qn C N bs bm hdct sn sub ab col dd k0 k1 k2 k3 k5 nwId)
    (li : Looks (model prog w) hp (typeLookup (.ref C) "__init__") (some (.ref fI))) (lb : ∀ self, Looks (model prog w) hp (bindSpecial (.ref fI) self) (.ref fI, [self])) (hz : us.length ≤ sizeLine)
    (q : codeAny (model prog w) A (.call (.ref fI) ⟨.ref (hp.objs.size + 1) :: us, []⟩) (fun r s' => match r with | .ok (.ret v) => v = .none ∧ Q (.done (.ret (.ref (hp.objs.size + 1)))) s' | .ok _ => False | .error e => E e s') ⟨(hp.push (kdv_tup us)).push (excO C hp.objs.size), g, dr, tk, os⟩) :
    wpAny (model prog w) A (Builtin.«type.__call__» ⟨.ref C :: us, []⟩) Q E ⟨hp, g, dr, tk, os⟩ := by
  wp_walk using wpAny_loadPart_at oC, wpAny_madeBy_exc oC
  refine codeAny_call_builtin_code (Code.quiet_builtin _ F.quiet) ?_
  have z := F.noStar
  simp only [checkBuiltinCall, F.newKind, F.newSplit, F.newRow]
  wp_walk using wpAny_loadPart_at oC, under oC hB, wpAny_staticBase_exc oC, wpAny_madeBy_exc oC
  refine made_new F hB nA nN oC ?_ hz
  have kp : ∀ b o, hp.get? b = some o → ((hp.push (kdv_tup us)).push (excO C hp.objs.size)).get? b = some o := fun b o e => Heap.get?_push_of_some _ (Heap.get?_push_of_some _ e)
  have oE : ((hp.push (kdv_tup us)).push (excO C hp.objs.size)).get? (hp.objs.size + 1) = some (excO C hp.objs.size) := by heap_get
  have self : ∀ {Q : Bool → Shared → Prop}, Q true ⟨(hp.push (kdv_tup us)).push (excO C hp.objs.size), g, dr, tk, os⟩ → wpAny (model prog w) A (isSubtype (.ref C) (.ref C)) Q E ⟨(hp.push (kdv_tup us)).push (excO C hp.objs.size), g, dr, tk, os⟩ := fun h => wpAny_isSubtype_exc (kp _ _ oC) (by
    rw [show (Value.ref C :: bm).contains (.ref C) = true by simp]; exact h)
  show wpAny _ _ _ _ _ _
  wp_walk using wpAny_loadPart_at oE, self
  refine (li.keeps kp).at (wpAny_holding (wpAny_bind (((lb _).keeps kp).at (wpAny_bind (wpAny_call (codeAny_mono q ?_))))))
  rintro (e | (v | _ | _ | _)) s' h
  · exact h
  · exact h.elim
  · exact h.elim
  · exact h.elim
  · obtain ⟨rfl, h⟩ := h
    wp_walk
    exact h
theorem made_call (F : ExcBaseFacts Bn nwId inN bmN) (hB : bm.contains (.type Bn) = true) (nA : bm.contains (.type "AttributeError") = false) (nN : bm.contains (.type "NameError") = false) {us : List Value} {fI : Addr} (oC : ClsO hp nm qn C N bs bm hdct sn sub ab col dd k0 k1 k2 k3 k5 nwId)
    (li : Looks (model prog w) hp (typeLookup (.ref C) "__init__") (some (.ref fI))) (lb : ∀ self, Looks (model prog w) hp (bindSpecial (.ref fI) self) (.ref fI, [self])) (hz : us.length ≤ sizeLine)
    (q : codeAny (model prog w) (A.under (.builtin "type.__call__" ⟨.ref C :: us, []⟩)) (.call (.ref fI) ⟨.ref (hp.objs.size + 1) :: us, []⟩) (InitBack (hp.objs.size + 1) R) ⟨(hp.push (kdv_tup us)).push (excO C hp.objs.size), g, dr, tk, os⟩) :
    codeAny (model prog w) A (.call (.ref C) ⟨us, []⟩) R ⟨hp, g, dr, tk, os⟩ := by
  have f1 := tc_lookup
  have f2 := tc_bind (.ref C)
  have ty : (⟨hp, g, dr, tk, os⟩ : Shared).TypeIs (.ref C) "type" := ⟨_, oC, rfl⟩
  refine codeAny_of_tree ?_
  show wpAny _ _ (callAny (.ref C) _) _ _ _
  wp_walk using wpAny_loadPart_at oC
  refine ⟨rfl, codeAny_call_builtin_at (Code.quiet_builtin _ (by decide +kernel)) entry_typeCall (wpAny_check_type_call_sub oC (made_type F hB nA nN oC li lb hz (codeAny_mono q ?_)))⟩
  rintro (e | (v | _ | _ | _)) s' h <;> exact h
/-- the bound __init__ of a base, called on a new error -/
theorem init_call {inId : String} {tl : List Value} (FB : MkFacts nwId inId tl) {u x t : Addr} {us : List Value} {Q : Value → Shared → Prop} (oC : ClsO hp nm qn C N bs bm hdct sn sub ab col dd k0 k1 k2 k3 k5 nwId) (ou : hp.get? u = some (kxs_mw inId x)) (ox : hp.get? x = some (excObj C t none .none)) (hz : us.length ≤ sizeLine)
    (q : ∀ h', (∀ b o, b ≠ x → hp.get? b = some o → h'.get? b = some o) → h'.get? x = some (excObj C hp.objs.size none .none) → Q .none ⟨h', g, dr, tk, os⟩) : wpAny (model prog w) A (call (.ref u) us) Q E ⟨hp, g, dr, tk, os⟩ := by
  obtain ⟨B, ir, ib⟩ := FB.ir
  have k := FB.ik
  refine wpAny_call (codeAny_of_tree ?_)
  show wpAny _ A.in1 (callAny (.ref u) ⟨us, []⟩) _ _ _
  simp only [callAny]
  wp_walk
  simp only [ir, k]
  wp_walk
  refine wpAny_onRaise (wpAny_of_eq (check_star_args _ _ _ _ _ _) ?_)
  wp_walk
  refine ⟨plainId_quiet FB.ip _, codeAny_builtin FB.ie ?_⟩
  exact exc_init_tree (cls := .ref C) (t0 := t) (dv := none) (c2 := .none) (c3 := .none) (b4 := .bool false) ox hz fun h' k e _ => q h' k e
end
end Lad
end
section
set_option maxRecDepth 100000
set_option maxHeartbeats 2000000
namespace Lad
open PySem PySem.W PySem.Calls PyProof.Rows PySem.HandSPX
open L2 (defArgs defBody defScope)
def exB (txt fld : Str) (j : Nat) (a1 a2 a3 a4 a5 a6 b1 b2 b3 b4 : Pos) : List Stmt :=
  [.Expr (.Call (.Attribute (.Call (.Name "super" a1) [] [] a2) "__init__" a3) [.Constant (.str txt) j a4] [] a5) a6, .Assign [.Attribute (.Name "self" b1) fld b2] (.Name fld b3) b4]
structure InitOk (st : Stmt) (fld : Str) : Prop where
  body : ∃ txt j a1 a2 a3 a4 a5 a6 b1 b2 b3 b4, defBody st = exB txt fld j a1 a2 a3 a4 a5 a6 b1 b2 b3 b4 ∧ ∀ env : Env, ∃ pl : Sem Bool,
    eval (.Call (.Attribute (.Call (.Name "super" a1) [] [] a2) "__init__" a3) [.Constant (.str txt) j a4] [] a5) env = (do
      let ov ← attributeBase (.Call (.Name "super" a1) [] [] a2) "__init__" env (eval (.Call (.Name "super" a1) [] [] a2) env)
      standAt a3.atName
      let (f, first) ← holding [ov] (getMethod ov "__init__" pl)
      callWith a5 f first (backTo a5 (starEach [.Constant (.str txt) j a4] env)) [])
  par : ∃ an p, ((defArgs st).posonlyargs ++ (defArgs st).args).head? = some { arg := "self", annotation := an, pos := p }
  cell : ∀ x ∈ (defScope st).names, x.2 ≠ .cell
  co : (defScope st).isCoroutine = false
  gen : (defScope st).isGenerator = false
  kind : (defScope st).kind = .function
  ls : (defScope st).names.lookup ("self" : Str) = some .local
  lf : (defScope st).names.lookup fld = some .local
  lsu : (defScope st).names.lookup ("super" : Str) = some .globalImplicit
  lc : (defScope st).names.lookup ("__class__" : Str) = some .free
  ne : fld ≠ "self"
  nd : (fld == ("__debug__" : Str)) = false
/-- what the written part says of the class at C (its __init__ at fI, the cell of its class at cc, its code at cda) -/
structure ExTxt (P : Program) (K : Frag) (st : Stmt) (C fI cc cda : Addr) (fd : FuncData) (B newId initId : String) (bmB : List Value) (fld : Str) : Prop where
  kxs : KxsFacts B initId
  eb : MkFacts newId initId bmB
  sf : StoreFacts B bmB "object.__setattr__" "object"
  ini : InitOk st fld
  ei : excInitIn K C bmB newId = true
  ov : excOver K C bmB = true
  sa : findIn K (.ref C) "__setattr__" = some (some (.builtin "object.__setattr__"))
  tkr : takerIn K C fld = some none
  iC : findIn K (.ref C) "__init__" = some (some (.ref fI))
  tC : typeIn K (.ref fI) = some (.type "function")
  kC : keepIn K (.ref C) = true
  exC : subIn K (.ref C) (.type "BaseException") = some true
  exB : subIn K (.ref C) (.type B) = some true
  tyC : typeIn K (.ref C) = some (.type "type")
  hdC : hasDictIn K C = true
  mro : mroIn K C (.ref C) = some true
  sup : nsIn K mainGlobals "super" = some none
  opq : nsIn K cStatics "thirdparty.any" = some none
  alo : ks_superIn K C C "__init__" = some (some (.builtin initId))
  fn : ∃ (qual : Str) (oc dV kV doc pm ct : Value) (od an : Option Addr) (osl : Array (Option Value)), fd = ksFn "__init__" qual (defArgs st) (defBody st) (defScope st) dV kV doc pm an (.ref cda) ct cc ∧ K.lookup fI = some ⟨oc, od, .func fd, osl⟩ ∧ codeIn K (.ref cda) qual = true
  bnd : ∀ (s : Shared) (x : Addr) (v : Value), BindsTo s fd ⟨[.ref x, v], []⟩ [("self", .ref x), (fld, v)]
  code : ∃ (ccl : Value) (cdd : Option Addr) (vs : Array Value) (ccs : Array (Option Value)) (file : Str) (tf : Tok), K.lookup cda = some ⟨ccl, cdd, .fields vs, ccs⟩ ∧ vs[2]? = some (.str file tf) ∧ ((P.main.file : Str) == file) = true
  clc : ∃ (cl : Value) (cld : Option Addr) (csl : Array (Option Value)), K.lookup cc = some ⟨cl, cld, .cell (some (.ref C)), csl⟩
  top : (P.main.scope.names.lookup ("super" : Str)).isSome = false
/-- what __init__ leaves of a fresh exception at x -/
structure XInit (h h' : Heap) (x C dx t1 : Addr) (fld : Str) (v : Value) : Prop where
  keep : ∀ b o, b ≠ x → h.get? b = some o → h'.get? b = some o
  obj : h'.get? x = some { cls := .ref C, dict := some dx, data := .fields #[.ref t1, .none, .none, .none, .bool false, .none] }
  dbig : h.objs.size ≤ dx
  dne : dx ≠ x
  ns : h'.Ns1 dx (fun y => if y = fld then some v else none)
section
variable {P : Program} {w : World} {A : Around} {E : Value → Shared → Prop} {R : Result → Shared → Prop} {s : Shared} {K : Frag} {mg : Str → Option Value} {st : Stmt} {C fI cc cda : Addr} {fd : FuncData} {B newId initId : String} {bmB : List Value} {fld : Str}
/-- self.f = v on a fresh exception -/
theorem xc_store {x t : Addr} {v : Value} {Q : Unit → Shared → Prop} (T : ExTxt P K st C fI cc cda fd B newId initId bmB fld) (X : K.In s.heap) (hx : s.heap.get? x = some (excObj C t none .none))
    (hq : ∀ h' tk dx, (∀ b o, b ≠ x → s.heap.get? b = some o → h'.get? b = some o) → s.heap.objs.size ≤ dx → dx ≠ x → h'.get? x = some (excObj C t (some dx) .none) → h'.Ns1 dx (fun y => if y = fld then some v else none) → Q () { s with heap := h', toks := tk }) :
    wpAny (model P w) A (setAttr (.ref x) fld v) Q E s := by
  refine set_plain (od := none) X ⟨hx, rfl, rfl, trivial⟩ T.sa ?_
  obtain ⟨hp, g, d, tk0, os⟩ := s
  refine osa_openX (od := none) T.sf X ⟨hx, rfl, rfl, trivial⟩ T.ov T.tkr fun b => ?_
  obtain ⟨cd, hc, hd'⟩ : ∃ cd, clsIn K C = some cd ∧ cd.hasDict = true := by
    have := T.hdC
    unfold hasDictIn at this
    cases e : clsIn K C with
    | none => rw [e] at this; simp at this
    | some cd => rw [e] at this; exact ⟨cd, rfl, by simpa using this⟩
  have hxs : x ≠ hp.objs.size := Nat.ne_of_lt (Heap.lt_size hx)
  refine wpAny_bind (wpAny_pure (wpAny_bind (instanceDict_exc hx (looks_clsIn X hc) hd' ?_)))
  refine store_in_new ⟨dictOf [] 0, #[], 0, (Heap.get?_update_other _ _ hxs).trans (Heap.get?_push_at rfl rfl), rfl, fun e he => absurd he (by simp), fun _ => rfl⟩ fun h' tk' hn' hs => ?_
  have e1 : ((hp.push (dictOf [] 0)).update x fun o => { o with dict := some hp.objs.size }).get? x = some (excObj C t (some hp.objs.size) .none) := Heap.get?_update_self _ (Heap.get?_push_of_some _ hx) rfl
  exact hq h' tk' hp.objs.size (fun b o hb ho => (hs.2 b (Nat.ne_of_lt (Heap.lt_size ho))).trans ((Heap.get?_update_other _ _ (Ne.symm hb)).trans (Heap.get?_push_of_some _ ho))) (Nat.le_refl _) hxs.symm ((hs.2 x hxs).trans e1) hn'
/-- __init__ runs -/
theorem xc_init (T : ExTxt P K st C fI cc cda fd B newId initId bmB fld) {x t0 : Addr} {v : Value} (X : K.In s.heap) (hg : s.heap.Ns mainGlobals mg) (hbt : ∃ mb, s.heap.Ns builtinsNs mb ∧ ∀ x : Str, x ≠ "__name__" → mb x = bootBuiltins x) (hlim : s.heap.NoLimit)
    (hx : s.heap.get? x = some (excObj C t0 none .none)) (hnx : K.lookup x = none) (hroom : A.depth < recursionLimit)
    (hq : ∀ h' tk dx t1, XInit s.heap h' x C dx t1 fld v → R (.ok (.ret .none)) { s with heap := h', toks := tk }) :
    codeAny (model P w) A (.call (.ref fI) ⟨[.ref x, v], []⟩) R s := by
  obtain ⟨qual, oc, dV, kV, doc, pm, ct, od, an, osl, rfl, hfI, hcd⟩ := T.fn
  obtain ⟨ccl, cdd, vs, ccs, file, tf, hcode, hvs, hfile⟩ := T.code
  obtain ⟨cl, cld, csl, hcell⟩ := T.clc
  obtain ⟨txt, j, a1, a2, a3, a4, a5, a6, b1, b2, b3, b4, hbody, hev⟩ := T.ini.body
  obtain ⟨pan, pp, hpar⟩ := T.ini.par
  refine ks_codeAny_call_defAt (binds := [("self", .ref x), (fld, v)]) hroom (X _ _ hfI) rfl hlim (codeRec_of X hcd) rfl (T.bnd s x v) T.ini.cell (fun y hy => ?_) (fun h₁ hn k₁ => ?_) T.ini.co T.ini.gen T.ini.kind
  · rcases List.mem_cons.mp hy with rfl | hy
    · exact T.ini.ls
    · rcases List.mem_cons.mp hy with rfl | hy
      · exact T.ini.lf
      · cases hy
  obtain ⟨hp, g, d, tk, os⟩ := s
  have X₁ : K.In h₁ := X.keeps k₁
  have hx₁ := k₁ _ _ hx
  have hxL : x ≠ hp.objs.size := Nat.ne_of_lt (Heap.lt_size hx)
  obtain ⟨mb, hb0, hbm⟩ := hbt
  obtain ⟨cdC, hcC⟩ : ∃ cd, clsIn K C = some cd := by
    have := T.hdC
    unfold hasDictIn at this
    cases e : clsIn K C with
    | none => rw [e] at this; simp at this
    | some cd => exact ⟨cd, rfl⟩
  obtain ⟨oD, hD1, hD2⟩ : ∃ oD, h₁.get? C = some oD ∧ oD.data = .cls cdC := by
    have hcC' := hcC
    unfold clsIn at hcC'
    split at hcC'
    · rename_i c d cd' sl ho
      cases hcC'
      exact ⟨_, X₁ _ _ ho, rfl⟩
    · cases hcC'
  have hself : ([("self", Value.ref x), (fld, v)] : List (Str × Value)).reverse.lookup ("self" : Str) = some (Value.ref x) := by
    have e : (("self" : Str) == fld) = false := by simpa using Ne.symm T.ini.ne
    simp [List.lookup, e]
  have hfld : ([("self", Value.ref x), (fld, v)] : List (Str × Value)).reverse.lookup fld = some v := by simp [List.lookup]
  rw [hbody]
  show PySem.wpAt _ _ (.func _ (ksEnv qual (defScope st) hp.objs.size fI (.ref cda) cc)) (execs _ (ksEnv qual (defScope st) hp.objs.size fI (.ref cda) cc)) _ _ _
  obtain ⟨pl, hev⟩ := hev (ksEnv qual (defScope st) hp.objs.size fI (.ref cda) cc)
  refine ks_wpAt_execs_cons (ks_wpAt_Expr_any (ks_wpAt_MethodCall (pl := pl) ?_ hev) (by simp [interactive, T.ini.kind]))
  refine ks_wpAt_super_base (env := ksEnv qual (defScope st) hp.objs.size fI (.ref cda) cc) T.ini.lsu T.ini.lc (by decide) rfl (X₁ _ _ hfI) rfl hpar rfl (X₁ _ _ hcode) rfl hvs hfile T.top ?_
  refine ks_loadName_global T.ini.kind T.ini.lsu (loadGlobal_builtin (env := ksEnv qual (defScope st) hp.objs.size fI (.ref cda) cc) (hg.keeps k₁) (mg_none_of X hg T.sup) (hb0.keeps k₁) ((hbm _ (by decide +kernel)).trans (by decide +kernel)) ⟨rfl, ?_⟩)
  refine wpAny_loadName_free T.ini.kind T.ini.lc rfl ⟨_, X₁ _ _ hcell, rfl⟩ ?_
  refine wpAny_loadName_local T.ini.kind T.ini.ls hn hself ?_
  refine ks_wpAny_isType_cls hD1 hD2 ⟨rfl, ?_⟩
  refine ks_wpAny_call_super hD1 hD2 hx₁ rfl (fun c e => by cases e) (looks_mroIn X₁ T.mro) (fun h₂ hso k₂ => ?_)
  have X₂ : K.In h₂ := X₁.keeps k₂
  have hx₂ := k₂ _ _ hx₁
  have hI : Looks (model P w) h₂ (isInstance (.ref x) (.type B)) true := (InstAt.type (ox := excObj C t0 none .none) (od := none) ⟨hx₂, rfl, rfl, trivial⟩).andThen (looks_subIn X₂ T.exB)
  have hxC : x ≠ C := fun z => by
    rw [← z] at hD1
    rw [hx₁] at hD1
    cases hD1
    cases hD2
  have alo := T.alo
  unfold ks_superIn at alo
  rw [hcC] at alo
  refine kxs_getMethod T.kxs hso (looks_opaque X₂ T.opq) (l₀ := cdC.mro) (fun A Q E s k q => wpAny_bind ((looks_clsIn X₂ hcC) A _ E s k (wpAny_pure q))) rfl X₂ alo hI hxC (by decide) ?_
  have k₃ : ∀ b o, h₂.get? b = some o → (h₂.push (kxs_mw initId x)).get? b = some o := fun b o e => Heap.get?_push_of_some _ e
  have hu : (h₂.push (kxs_mw initId x)).get? h₂.objs.size = some (kxs_mw initId x) := Heap.get?_push_at rfl rfl
  refine kxs_callWith (i := initId) (x := x) rfl ?_
  refine evalArgs_plain ?_
  refine spliced_cons (Constant_str (k := j) (pos := a4) ?_)
  refine spliced_nil ⟨hu, ?_⟩
  have hLs : hp.objs.size < h₂.objs.size := by
    obtain ⟨oL, _, _, hL, _⟩ := hn
    exact Heap.lt_size (k₂ _ _ hL)
  have hux : h₂.objs.size ≠ x := Nat.ne_of_gt (Heap.lt_size hx₂)
  obtain ⟨nm, Nc, qn, bs, bm, hdct, sn, sub, ab, col, dd, k0, k1, k2, k3, k5, oC, -⟩ := excInit_of (X₂.keeps k₃) T.ei
  refine init_call T.eb oC hu (k₃ _ _ hx₂) (by rw [sizeLine_eq]; exact (by decide : 1 ≤ 16777216)) fun h' kp' hx' => ?_
  have X' : K.In h' := fun a o e => kp' a o (fun z => by rw [z, hnx] at e; cases e) (k₃ _ _ (X₂ a o e))
  have ns' : h'.Ns hp.objs.size (fun y => ([("self", Value.ref x), (fld, v)] : List (Str × Value)).reverse.lookup y) := by
    obtain ⟨oL, es, ep, hL, r⟩ := (hn.keeps k₂).keeps k₃
    exact ⟨oL, es, ep, kp' _ _ (Ne.symm hxL) hL, r⟩
  have hLs' : hp.objs.size < h'.objs.size := by
    obtain ⟨oL, _, _, hL, _⟩ := ns'
    exact Heap.lt_size hL
  refine wpAt_of_wpAny (wpAny_execs_cons (plainObj_wpAny_Assign_Attribute ?_))
  refine wpAny_Name (wpAny_loadName_local T.ini.kind T.ini.lf ns' hfld ?_) T.ini.nd
  refine wpAny_Name (wpAny_loadName_local T.ini.kind T.ini.ls ns' hself ?_) (by decide)
  refine xc_store (s := ⟨h', g, d, _, os⟩) T X' hx' fun h'' tk'' dx kp dn dne ho hns => wpAny_execs_nil ?_
  exact hq h'' tk'' dx _ ⟨fun b o hb e => kp b o hb (kp' b o hb (k₃ _ _ (k₂ _ _ (k₁ _ _ e)))), ho, Nat.le_trans (Nat.le_of_lt hLs') dn, dne, hns⟩
/-- a made error -/
structure XMade (h h' : Heap) (e C d : Addr) (fld : Str) (v : Value) : Prop where
  keep : ∀ b o, h.get? b = some o → h'.get? b = some o
  new : h.objs.size ≤ e
  obj : ∃ oe vs, h'.get? e = some oe ∧ oe.cls = .ref C ∧ oe.dict = some d ∧ oe.data = .fields vs ∧ vs[1]? = some .none
  dbig : h.objs.size ≤ d
  dne : d ≠ e
  ns : h'.Ns1 d (fun y => if y = fld then some v else none)
theorem xc_made (T : ExTxt P K st C fI cc cda fd B newId initId bmB fld) {v : Value} (X : K.In s.heap) (hg : s.heap.Ns mainGlobals mg) (hbt : ∃ mb, s.heap.Ns builtinsNs mb ∧ ∀ x : Str, x ≠ "__name__" → mb x = bootBuiltins x) (hlim : s.heap.NoLimit) (hroom : A.depth + 1 < recursionLimit)
    (hq : ∀ h' tk e d, XMade s.heap h' e C d fld v → R (.ok (.ret (.ref e))) { s with heap := h', toks := tk }) :
    codeAny (model P w) A (.call (.ref C) ⟨[v], []⟩) R s := by
  obtain ⟨nm, N, qn, bs, bm, hdct, sn, sub, ab, col, dd, k0, k1, k2, k3, k5, hC, hT⟩ := excInit_of X T.ei
  obtain ⟨hp, g, dr, tk, os⟩ := s
  have k : ∀ b o, hp.get? b = some o → ((hp.push (kdv_tup [v])).push (excO C hp.objs.size)).get? b = some o := fun b o e => Heap.get?_push_of_some _ (Heap.get?_push_of_some _ e)
  have hget : ((hp.push (kdv_tup [v])).push (excO C hp.objs.size)).get? (hp.objs.size + 1) = some (excObj C hp.objs.size none .none) := by heap_get
  have hnx : K.lookup (hp.objs.size + 1) = none := by
    cases e : K.lookup (hp.objs.size + 1) with
    | none => rfl
    | some o => exact absurd (Nat.lt_of_succ_lt (Heap.lt_size (show hp.get? (hp.objs.size + 1) = some o from X _ _ e))) (Nat.lt_irrefl _)
  obtain ⟨mb, hb0, hbm⟩ := hbt
  obtain ⟨Bn, inN, bmN, F, hB⟩ := T.eb.nw
  refine made_call F ((hT _).trans hB) ((hT _).trans T.eb.na) ((hT _).trans T.eb.nn) hC (looks_findIn X T.iC) (fun self => bind_fn X self T.tC) (by rw [sizeLine_eq]; exact (by decide : 1 ≤ 16777216)) ?_
  refine xc_init (s := ⟨(hp.push (kdv_tup [v])).push (excO C hp.objs.size), g, dr, tk, os⟩) T (X.keeps k) (hg.keeps k) ⟨mb, hb0.keeps k, hbm⟩ (hlim.keeps k) hget hnx hroom fun h' tk' dx t1 M => ?_
  have z : hp.objs.size + 1 + 1 ≤ dx := by
    have q := M.dbig
    simpa only [Heap.size_push] using q
  exact ⟨rfl, hq h' tk' (hp.objs.size + 1) dx ⟨fun b o e => M.keep b o (Nat.ne_of_lt (Nat.lt_succ_of_lt (Heap.lt_size e))) (k b o e), Nat.le_succ _, ⟨_, _, M.obj, rfl, rfl, rfl, rfl⟩, by show hp.objs.size ≤ dx; omega, M.dne, M.ns⟩⟩
end
end Lad
namespace Lad
open PySem L2
theorem relO_one {v : V} {v' : Value} (r : RelV v v') (g f : Str) : RelO (List.lookup f [(g, v)]) (if f = g then some v' else none) := by
  by_cases hw : f = g
  · subst hw
    rw [if_pos rfl]
    have q : List.lookup f [(f, v)] = some v := by simp [List.lookup]
    rw [q]
    exact r
  · rw [if_neg hw]
    have qw : (f == g) = false := by simpa using hw
    have q2 : List.lookup f [(g, v)] = none := by simp [List.lookup, qw]
    rw [q2]
    trivial
section
variable {X : Cx} {st : Stmt} {C fI cc cda : Addr} {fd : FuncData} {B newId initId : String} {bmB : List Value} {fld : Str}
def tMkX (C : Addr) (fld : Str) (ta : TA) : St → Hp → XK → Prop := fun σ H Q => ta σ H fun vs H1 => ∃ v, vs = [v] ∧ ∀ d, H1 d = none → Q (.ref C) (some d) (upd H1 d (.xd [(fld, v)]))
theorem pmk_x {x : Str} {a : Expr} {ta : TA} {p pos : Pos} {k : Nat} (T : ExTxt X.prog X.K st C fI cc cda fd B newId initId bmB fld) (hr : Room k X.A) (gC : X.mg x = some (.ref C)) (ha : PA X [a] ta) (hg : Gl X x := by rfl) (hdb : (x == ("__debug__" : Str)) = false := by decide)
    (he : starEach (a :: []) X.env = (false, eval a X.env) :: starEach [] X.env := by rfl) (hpl : (backTo pos (starEach [] X.env)).any (·.1) = false := by rfl) :
    PMk X (.Call (.Name x p) [a] [] pos) (tMkX C fld ta) := by
  intro pins s σ H Q I h
  refine wpAny_Call_Name_kw (ld_glob I hg gC ?_ hdb)
  refine PySem.W.callWith_K (h₀ := X.base) I.ok.mod.kin T.kC (thn (ha.run pos pins s σ H _ I h) fun us s1 hh => ?_) he hpl
  obtain ⟨vs, H1, I1, r1, v, ev, q1⟩ := hh
  subst ev
  refine ⟨I1.kIn, ?_⟩
  cases r1 with
  | cons rv rn =>
    rename_i v' us'
    cases rn
    have hlim := I1.nolimit
    obtain ⟨mb, hb0, hbm⟩ := I1.ok.mod.blt
    have hg1 := I1.ok.mod.glob.keeps I1.bk
    have hb1 := hb0.keeps I1.bk
    obtain ⟨hp, g, dr, tk, os⟩ := s1
    refine wpAny_call (xc_made T I1.kIn hg1 ⟨mb, hb1, hbm⟩ hlim (by have := hr.dp; omega) fun h' tk' e d M => ?_)
    show MkP X pins σ Q (.ref e) ⟨h', g, dr, tk', os⟩
    obtain ⟨oe, fv, hoe, hc, hd, hdat, h1⟩ := M.obj
    have hns := M.ns
    obtain ⟨G', g1, g2⟩ := restrict h' fun b => decide (b ≠ e)
    have gk : ∀ b, b ≠ e → G'.get? b = h'.get? b := fun b hb => g1 b (decide_eq_true hb)
    have ge : G'.get? e = none := g2 e (by simp)
    have old : ∀ b o, hp.get? b = some o → G'.get? b = some o := fun b o q => (gk b (Nat.ne_of_lt (Nat.lt_of_lt_of_le (Heap.lt_size q) M.new))).trans (M.keep b o q)
    have ob : ObjOk X.prog X.w (upd H1 d (.xd [(fld, v)])) G' d (.xd [(fld, v)]) := ⟨_, hns.at (fun o q => (gk d M.dne).trans q), fun f => relO_one rv fld f⟩
    have J : Inv X pins σ (upd H1 d (.xd [(fld, v)])) ⟨G', g, dr, tk', os⟩ := I1.laid (t' := tk') old M.dbig ob
    refine ⟨e, oe, fv, ⟨G', g, dr, tk', os⟩, _, .ref C, some d, rfl, J, fun b o q => ?_, ge, hoe, ⟨hc, hd⟩, hdat, h1, ?_, rfl, I1.bare, raises_own T.exC T.tyC, q1 d (I1.hok.fresh M.dbig)⟩
    · by_cases hb : b = e
      · have q' : G'.get? b = some o := q
        rw [hb, ge] at q'; cases q'
      · exact (gk b hb).symm.trans q
    · rw [upd_ne (Ne.symm M.dne)]
      exact I1.hok.fresh M.new
end
def sRaise (c : Nat) (f : En → Hea → Res Val) : En → Hea → SRes := fun e h => ofR (f e h) e fun d h1 => .exc c d e h1
section
variable {T : Tb} {X : Cx} {W : WX} {st : Stmt} {fI cc cda : Addr} {fd : FuncData} {B newId initId : String} {bmB : List Value} {c : Nat} {x : Str} {a : Expr} {f : En → Hea → Res Val} {p pos pos2 : Pos} {k : Nat}
theorem st_raise (hc : X.calm = true) (E : ExTxt X.prog X.K st (T.ca c) fI cc cda fd B newId initId bmB (T.fld c)) (hr : Room k X.A) (gC : X.mg x = some (.ref (T.ca c))) (tk : Takes X W) (ha : SE T X W a f) (hg : Gl X x := by rfl) (hdb : (x == ("__debug__" : Str)) = false := by decide)
    (he : starEach (a :: []) X.env = (false, eval a X.env) :: starEach [] X.env := by rfl) (hpl : (backTo pos (starEach [] X.env)).any (·.1) = false := by rfl) :
    SSt T X W (.Raise (some (.Call (.Name x p) [a] [] pos)) none pos2) (sRaise c f) := (ps_raise hc tk (pmk_x E hr gC (pa_cons ha pa_nil he) hg hdb he hpl)).imp fun D σ H q => by
  obtain ⟨ρ, e, h, R, E, a⟩ := q
  refine ⟨ρ, e, h, R, E, (a.ofR E).mono fun v H1 ⟨ρ1, d, h1, s, R1, r, E1, a1⟩ => ⟨v, rfl, fun dx hd => ?_⟩⟩
  exact a1 ρ1 v σ _ dx (.side hd) (R1.side hd) (r.mono (.side hd)) (E1.mono (.side hd)) upd_same
end
end Lad
end
section
set_option maxRecDepth 100000
set_option maxHeartbeats 2000000
namespace Lad
open PySem L2
mutual
def Val.noEx : Val → Bool
  | .tup xs => noExL xs
  | .lst xs => noExL xs
  | .dic _ _ xs => noExL xs
  | .obj _ _ xs => noExL xs
  | .exn _ _ => false
  | _ => true
def noExL : List Val → Bool
  | [] => true
  | x :: xs => x.noEx && noExL xs
end
def noExKv : List (Val × Val) → Bool
  | [] => true
  | (a, b) :: xs => b.noEx && noExKv xs
def noExFs : List (Nat × Val) → Bool
  | [] => true
  | (a, b) :: xs => b.noEx && noExFs xs
def Ob.noEx : Ob → Bool
  | .lst xs => noExL xs
  | .fro _ => true
  | .dcK xs => noExKv xs
  | .dcT xs => noExKv xs
  | .dcL xs => noExKv xs
  | .dcM xs => noExKv xs
  | .ins _ fs => noExFs fs
def noExH : Hea → Bool
  | [] => true
  | o :: os => o.noEx && noExH os
def noExE : En → Bool
  | [] => true
  | none :: r => noExE r
  | some v :: r => v.noEx && noExE r
/-- the same tables but for the handled error -/
def Sy.like (S S' : Sy) : Prop := S.K = S'.K ∧ S.ca = S'.ca ∧ S.nm = S'.nm ∧ S.fld = S'.fld ∧ S.P = S'.P ∧ S.w = S'.w
section
variable {S S' : Sy} {ρ : Own} {H : Hp}
mutual
theorem Rep.no : ∀ {d : Val} {v : V}, S.ex = none → Rep S ρ H d v → d.noEx = true
  | _, _, _, .non => rfl
  | _, _, _, .bl _ => rfl
  | _, _, _, .int _ => rfl
  | _, _, _, .str _ => rfl
  | _, _, h, .tup _ r => by simp only [Val.noEx]; exact Reps.no h r
  | _, _, h, .lst _ _ r => by simp only [Val.noEx]; exact Reps.no h r
  | _, _, h, .dicK _ _ _ _ r => by simp only [Val.noEx]; exact Reps.no h r
  | _, _, h, .dicT _ _ _ _ _ _ r => by simp only [Val.noEx]; exact Reps.no h r
  | _, _, h, .obj _ _ _ _ r => by simp only [Val.noEx]; exact Reps.no h r
  | _, _, _, .ref _ => rfl
  | _, _, h, .exn e _ _ => by rw [h] at e; cases e
theorem Reps.no : ∀ {d : List Val} {v : List V}, S.ex = none → Reps S ρ H d v → noExL d = true
  | _, _, _, .nil => rfl
  | _, _, h, .cons r t => by simp only [noExL, Rep.no h r, Reps.no h t, Bool.and_self]
end
mutual
theorem Rep.like (l : S.like S') : ∀ {d : Val} {v : V}, d.noEx = true → Rep S ρ H d v → Rep S' ρ H d v
  | _, _, _, .non => .non
  | _, _, _, .bl _ => .bl _
  | _, _, _, .int _ => .int _
  | _, _, _, .str _ => .str _
  | _, _, h, .tup s r => .tup (by rw [← l.1]; exact s) (Reps.like l (by simpa [Val.noEx] using h) r)
  | _, _, h, .lst f q r => .lst f q (Reps.like l (by simpa [Val.noEx] using h) r)
  | _, _, h, .dicK f q e1 e2 r => .dicK f q e1 e2 (Reps.like l (by simpa [Val.noEx] using h) r)
  | _, _, h, .dicT f q e1 e2 r e3 r2 => .dicT f (by rw [← l.2.2.2.2.1, ← l.2.2.2.2.2]; exact q) e1 e2 (toNK_reps l.1.symm e2 r) e3 (Reps.like l (by simpa [Val.noEx] using h) r2)
  | _, _, h, .obj f q e1 e2 r => .obj f (by rw [← l.2.1]; exact q) (by rw [← l.2.2.1]; exact e1) e2 (Reps.like l (by simpa [Val.noEx] using h) r)
  | _, _, _, .ref e => .ref e
  | _, _, h, .exn _ _ _ => by simp [Val.noEx] at h
theorem Reps.like (l : S.like S') : ∀ {d : List Val} {v : List V}, noExL d = true → Reps S ρ H d v → Reps S' ρ H d v
  | _, _, _, .nil => .nil
  | _, _, h, .cons r t => by
    simp only [noExL, Bool.and_eq_true] at h
    exact .cons (Rep.like l h.1 r) (Reps.like l h.2 t)
end
theorem KvR.like {κ : Type} {kd : κ → Val} (l : S.like S') : ∀ {d : List (Val × Val)} {v : List (κ × V)}, noExKv d = true → KvR S ρ H kd d v → KvR S' ρ H kd d v
  | _, _, _, .nil => .nil
  | _, _, h, .cons r t => by
    simp only [noExKv, Bool.and_eq_true] at h
    exact .cons (Rep.like l h.1 r) (KvR.like l h.2 t)
theorem KvN.like (l : S.like S') : ∀ {d : List (Val × Val)} {v : List (NestedKey × Addr × V)}, noExKv d = true → KvN S ρ H d v → KvN S' ρ H d v
  | _, _, _, .nil => .nil
  | _, _, h, .cons r e q t => by
    simp only [noExKv, Bool.and_eq_true] at h
    exact .cons (toNK_rep l.1.symm e r) e (Rep.like l h.1 q) (KvN.like l h.2 t)
theorem KvN.no (h : S.ex = none) : ∀ {d : List (Val × Val)} {v : List (NestedKey × Addr × V)}, KvN S ρ H d v → noExKv d = true
  | _, _, .nil => rfl
  | _, _, .cons _ _ q t => by simp only [noExKv, Rep.no h q, KvN.no h t, Bool.and_self]
theorem FsR.like (l : S.like S') : ∀ {d : List (Nat × Val)} {v : List (Str × V)}, noExFs d = true → FsR S ρ H d v → FsR S' ρ H d v
  | _, _, _, .nil => .nil
  | _, _, h, .cons r t => by
    simp only [noExFs, Bool.and_eq_true] at h
    rw [l.2.2.1]
    exact .cons (Rep.like l h.1 r) (FsR.like l h.2 t)
theorem KvR.no {κ : Type} {kd : κ → Val} (h : S.ex = none) : ∀ {d : List (Val × Val)} {v : List (κ × V)}, KvR S ρ H kd d v → noExKv d = true
  | _, _, .nil => rfl
  | _, _, .cons r t => by simp only [noExKv, Rep.no h r, KvR.no h t, Bool.and_self]
theorem FsR.no (h : S.ex = none) : ∀ {d : List (Nat × Val)} {v : List (Str × V)}, FsR S ρ H d v → noExFs d = true
  | _, _, .nil => rfl
  | _, _, .cons r t => by simp only [noExFs, Rep.no h r, FsR.no h t, Bool.and_self]
theorem ObR.like (l : S.like S') {o : Ob} {a : Addr} (h : o.noEx = true) (r : ObR S ρ H o a) : ObR S' ρ H o a := by
  cases r with
  | lst h1 h2 => exact .lst h1 (h2.like l h)
  | fro h1 => exact .fro h1
  | dcK h1 h2 => exact .dcK h1 (h2.like l h)
  | dcT h1 h2 => exact .dcT (by rw [← l.2.2.2.2.1, ← l.2.2.2.2.2]; exact h1) (h2.like l h)
  | dcL h1 h2 => exact .dcL h1 (h2.like l h)
  | dcM h1 h2 => exact .dcM (by rw [← l.2.2.2.2.1, ← l.2.2.2.2.2]; exact h1) (h2.like l h)
  | ins h1 h2 => exact .ins (by rw [← l.2.1]; exact h1) (h2.like l h)
theorem ObR.no (h : S.ex = none) {o : Ob} {a : Addr} (r : ObR S ρ H o a) : o.noEx = true := by
  cases r with
  | lst h1 h2 => exact h2.no h
  | fro h1 => rfl
  | dcK h1 h2 => exact h2.no h
  | dcT h1 h2 => exact h2.no h
  | dcL h1 h2 => exact h2.no h
  | dcM h1 h2 => exact h2.no h
  | ins h1 h2 => exact h2.no h
theorem noExH_get : ∀ {h : Hea} {i : Nat} {o : Ob}, noExH h = true → h[i]? = some o → o.noEx = true
  | o :: os, 0, _, h, e => by
    simp only [noExH, Bool.and_eq_true] at h
    cases e
    exact h.1
  | o :: os, i + 1, _, h, e => by
    simp only [noExH, Bool.and_eq_true] at h
    exact noExH_get (i := i) h.2 e
  | [], _, _, _, e => by simp at e
theorem Rel.like {h : Hea} (l : S.like S') (hn : ∀ (i : Nat) (o : Ob), h[i]? = some o → o.noEx = true) (R : Rel S ρ h H) : Rel S' ρ h H := ⟨R.len, R.inj, fun i o a e1 e2 => (R.ob i o a e1 e2).like l (hn i o e1), R.hid⟩
theorem Rel.no {h : Hea} (hx : S.ex = none) (R : Rel S ρ h H) : ∀ (i : Nat) (o : Ob), h[i]? = some o → o.noEx = true := fun i o e => by
  obtain ⟨a, _, r⟩ := R.at e
  exact r.no hx
theorem ER.like (l : S.like S') : ∀ {e : En} {σ : St}, noExE e = true → ER S ρ H e σ → ER S' ρ H e σ
  | _, _, _, .nil => .nil
  | none :: _, _, h, .cons r t => .cons (fun x e => nomatch e) (ER.like l h t)
  | some v :: _, _, h, .cons r t => by
    simp only [noExE, Bool.and_eq_true] at h
    exact .cons (fun x e => by
      obtain ⟨y, ey, q⟩ := r x e
      cases e
      exact ⟨y, ey, q.like l h.1⟩) (ER.like l h.2 t)
theorem ER.no (hx : S.ex = none) : ∀ {e : En} {σ : St}, ER S ρ H e σ → noExE e = true
  | _, _, .nil => rfl
  | none :: _, _, .cons r t => by
    simp only [noExE]
    exact ER.no hx t
  | some v :: _, _, .cons r t => by
    obtain ⟨y, ey, q⟩ := r v rfl
    simp only [noExE, q.no hx, ER.no hx t, Bool.and_self]
theorem Kp.like (l : S.like S') {H' : Hp} (k : Kp S H H') : Kp S' H H' := ⟨fun a xs h => by rw [← l.1] at h ⊢; exact k.1 a xs h, k.2⟩
theorem Go.like (l : S.like S') {ρ' : Own} {H' : Hp} (g : Go S ρ H ρ' H') : Go S' ρ H ρ' H' := ⟨g.sub, g.kp.like l, g.fr, g.nw, g.hd⟩
end
/-- what a suite leaves -/
def suiteEnd (i : Nat) (h1 : Hea) : SRes → SRes
  | .rt v h2 => if (noExH h2 && v.noEx) = true then .rt v h2 else .stuck
  | .nx e2 h2 => if (noExH h2 && noExE (e2.set i none)) = true then .nx (e2.set i none) h2 else .stuck
  | _ => .stuck
def sTry1 (sub : Nat → Option Bool) (i : Nat) (fb fs : En → Hea → SRes) : En → Hea → SRes := fun e h => match fb e h with
  | .exc c d e1 h1 => match sub c with
    | some true => suiteEnd i h1 (fs (e1.set i (some (.exn c d))) h1)
    | some false => .exc c d e1 h1
    | none => .stuck
  | r => r
section
variable {T : Tb} {X : Cx} {W : WX} {x n : Str} {cv : Value} {i : Nat} {body suite : List Stmt} {b₀ : Stmt} {np pos pos' : Pos} {fb fs : En → Hea → SRes} {sub : Nat → Option Bool}
abbrev Tb.at (T : Tb) (a : Addr) (c : Nat) (dx : Addr) : Tb := { T with ex := some (a, c, dx) }
theorem like_at {a : Addr} {c : Nat} {dx : Addr} : (sy T X).like (sy (T.at a c dx) X) := ⟨rfl, rfl, rfl, rfl, rfl, rfl⟩
theorem like_off {a : Addr} {c : Nat} {dx : Addr} : (sy (T.at a c dx) X).like (sy T X) := ⟨rfl, rfl, rfl, rfl, rfl, rfl⟩
theorem ends_ok {i : Nat} {a : Addr} {c : Nat} {dx : Addr} {ρ : Own} {H : Hp} {h1 : Hea} {r : SRes} {D : Ends} (hx : T.ex = none) (R : Rel (sy T X) ρ h1 H) (q : AftS (sy T X) ρ H (suiteEnd i h1 r) D W) :
    AftS (sy (T.at a c dx) X) ρ H r { nx := fun σ' H' => D.nx (σ'.set i none) H', rt := D.rt, bk := fun σ' H' => D.bk (σ'.set i none) H', ct := fun σ' H' => D.ct (σ'.set i none) H' } W0 := by
  have hn := R.no hx
  cases r with
  | rt v h2 =>
    unfold suiteEnd at q
    dsimp only at q
    split at q
    · rename_i hb
      simp only [Bool.and_eq_true] at hb
      exact fun ρ1 u H1 s R1 r1 => q ρ1 u H1 (s.like like_off) (R1.like like_off (fun _ _ z => noExH_get hb.1 z)) (r1.like like_off hb.2)
    · exact q.elim
  | nx e2 h2 =>
    unfold suiteEnd at q
    dsimp only at q
    split at q
    · rename_i hb
      simp only [Bool.and_eq_true] at hb
      exact fun ρ1 σ1 H1 s R1 E1 => q ρ1 _ H1 (s.like like_off) (R1.like like_off (fun _ _ z => noExH_get hb.1 z)) ((E1.gone i).like like_off hb.2)
    · exact q.elim
  | bk e2 h2 => exact q.elim
  | ct e2 h2 => exact q.elim
  | exc c2 d2 e2 h2 => exact q.elim
  | stuck => exact q.elim
theorem st_try1 (hx : T.ex = none) (hs : X.stack = X.env :: X.outer) (hf : X.env.frame = some X.env.locals) (hN : X.N.Nodup) (hi : X.N[i]? = some n) (hln : X.env.kindOf n = some .local) (hc : Names X x cv) (tk : Takes X W)
    (hsub : ∀ c b, sub c = some b → PySem.W.exmOne X.K (.ref (T.ca c)) cv = some b)
    (hb : ∀ (W : WX) (pn : List (Addr × Obj)) (xe : Value → Shared → Prop), Takes (X.tr pn xe) W → PassesOwn (model X.prog X.w) X.A X.env xe → SSs T (X.tr pn xe) W body fb)
    (hsu : ∀ (a : Addr) (oe : Obj) (c : Nat) (dx : Addr) (pn : List (Addr × Obj)), sub c = some true → Zc (.ref (T.ca c)) (some dx) oe → (∃ vs, oe.data = .fields vs) → SSs (T.at a c dx) (X.suite a ((a, oe) :: pn)) W0 (b₀ :: suite) fs) :
    SSt T X W (.Try body [.ExceptHandler (some (.Name x np)) (some n) (b₀ :: suite) pos'] [] [] pos) (sTry1 sub i fb fs) := by
  refine PS.imp (ps_try_as (tb := fun W' => tS (sy T X) W' fb) (ts := fun a cls d D σ H => ∃ c dx, sub c = some true ∧ cls = .ref (T.ca c) ∧ d = some dx ∧ tS (sy (T.at a c dx) X) W0 fs D σ H) hs hf hN hi hln hc tk (fun W' pn xe tk' po => hb W' pn xe tk' po) (fun a oe cls d pn hz hff => ?_)) fun D σ H q => ?_
  · refine ⟨fun pins s σ H D I q => ?_⟩
    obtain ⟨c, dx, hsc, rfl, rfl, q⟩ := q
    exact (hsu a oe c dx pn hsc hz hff).run pins s σ H D I q
  · obtain ⟨ρ, e, h, R, E, a⟩ := q
    refine ⟨ρ, e, h, R, E, ?_⟩
    unfold sTry1 at a
    revert a
    cases fb e h with
    | nx e1 h1 => exact id
    | rt v h1 => exact id
    | bk e1 h1 => exact id
    | ct e1 h1 => exact id
    | stuck => exact id
    | exc c d e1 h1 =>
      intro a ρ1 v σ1 H1 dx s R1 r1 E1 hdx
      dsimp only at a
      cases hsb : sub c with
      | none => rw [hsb] at a; exact a.elim
      | some b =>
        rw [hsb] at a
        refine ⟨b, hsub c b hsb, fun hb1 ax hax => ?_, fun hb1 => ?_⟩
        · subst hb1
          refine ⟨c, dx, hsb, rfl, rfl, ρ1, _, h1, R1.like like_at (R1.no hx), ?_, ends_ok (W := W) hx R1 (AftS.later a s)⟩
          exact ER.set (S := sy (T.at ax c dx) X) (Rep.exn (S := sy (T.at ax c dx) X) rfl hdx (r1.like like_at (r1.no hx))) i (E1.like like_at (E1.no hx))
        · subst hb1
          exact a ρ1 v σ1 H1 dx s R1 r1 E1 hdx
end
def oExF : Hea → Val → Option Val
  | _, .exn _ d => some d
  | _, _ => none
section
variable {T : Tb} {X : Cx} {a dx : Addr} {c : Nat} {oe : Obj} {pn : List (Addr × Obj)} {e : Expr} {f : En → Hea → Res Val} {pos : Pos} {nm : Str}
theorem se_xf (XC : XfC X.K (T.ca c)) (hno : PySem.W.findIn X.K (.ref (T.ca c)) nm = some none) (hnm : T.fld c = nm) (hz : Zc (.ref (T.ca c)) (some dx) oe) (hf : ∃ vs, oe.data = .fields vs) (he : SE (T.at a c dx) (X.suite a ((a, oe) :: pn)) W0 e f)
    (hb : attributeBase e nm X.env (eval e X.env) = eval e X.env := by rfl) : SE (T.at a c dx) (X.suite a ((a, oe) :: pn)) W0 (.Attribute e nm pos) (eUn oExF f) := (pe_xf XC hno hz hf he hb).imp fun σ H Q q => by
  obtain ⟨ρ, e, h, R, E, a1⟩ := tE.bind (f := f) (g := fun e x h1 => opt (oExF h1 x) h1) q
  refine ⟨ρ, e, h, R, E, a1.mono fun v H1 ⟨ρ1, e1, d1, h1, b1, a2⟩ => ?_⟩
  obtain ⟨R1, E1, r1⟩ := b1
  unfold oExF at a2
  split at a2
  · cases r1 with
    | exn h1 h2 r =>
      cases h1
      refine ⟨rfl, rfl, dx, _, _, rfl, h2, ?_, a2.same R1 r⟩
      subst hnm
      simp [List.lookup]
  · exact a2.elim
end
end Lad
end
section
set_option maxRecDepth 100000
set_option maxHeartbeats 2000000
namespace Lad
open PySem L2
end Lad
end
section
set_option maxRecDepth 100000
set_option maxHeartbeats 2000000
namespace Lad
open PySem L2
def setIx (h : Hea) (o i v : Val) : Option Hea := match o, i with
  | .ref p, .int k => match h[p]? with
    | some (.lst xs) => match ixN xs.length k with
      | some j => some (h.set p (.lst (xs.set j v)))
      | none => none
    | _ => none
  | _, _ => none
def sSetIx (fv fo fi : En → Hea → Res Val) : En → Hea → SRes := fun e h => ofR ((fv e h).bind fun v h1 => (fo e h1).bind fun o h2 => (fi e h2).bind fun i h3 => match setIx h3 o i v with
    | some h4 => .ok Val.non h4
    | none => .stuck) e fun _ h4 => .nx e h4
section
variable {T : Tb} {X : Cx} {W : WX} {a o i : Expr} {fv fo fi : En → Hea → Res Val} {pos pos' : Pos}
theorem st_setIx (hv : SE T X W a fv) (ho : SE T X W o fo) (hi : SE T X W i fi)
    (ha : ∀ v, assign (.Subscript o i pos') X.env v = (do
      let ov ← holding [v] (eval o X.env)
      let iv ← holding [v, ov] (eval i X.env)
      standAt pos'
      holding [v, ov, iv] (setItem ov iv v)
      release [v, ov, iv] []) := by intro _; rfl)
    (hs : swapsWithSole [.Subscript o i pos'] a pos.line X.env = pure false := by rfl) (hw : swappedStores [.Subscript o i pos'] a X.env = pure none := by rfl)
    (h1 : (assignEach [.Subscript o i pos'] X.env).map (·.2) = [assign (.Subscript o i pos') X.env] := by rfl) : SSt T X W (.Assign [.Subscript o i pos'] a pos) (sSetIx fv fo fi) :=
  (ps_asg hv (pg_sub ho hi set_list ha) hs hw h1).imp fun D σ H q => by
    obtain ⟨ρ, e, h, R, E, a⟩ := q
    unfold sSetIx at a
    have a := (AftS.ofR a E).bind
    refine ⟨ρ, e, h, R, E, a.mono fun v H1 ⟨ρ1, d, h1, s, R1, r1, a1⟩ => ⟨ρ1, e, h1, R1, E.go s, a1.bind.mono fun ov H2 ⟨ρ2, od, h2, s2, R2, r2, a2⟩ => ⟨ρ2, e, h2, R2, (E.go s).go s2, a2.bind.mono fun iv H3 ⟨ρ3, id, h3, s3, R3, r3, a3⟩ => ?_⟩⟩⟩
    unfold setIx at a3
    split at a3
    · rename_i h4 hset
      split at hset
      · split at hset
        · rename_i xs hxs
          split at hset
          · rename_i j hj
            cases hset
            obtain ⟨p, rfl, ep⟩ := (r2.go s3).ref_
            obtain rfl := r3.int_
            have ob := R3.ob _ _ _ hxs ep
            cases ob with
            | @lst _ vs _ hl hr =>
              refine ⟨p, _, _, j, rfl, rfl, hl, by rw [← hr.length]; exact hj, ?_⟩
              have rv := (r1.go s2).go s3
              have kp : Mv (sy T X) ρ3 H3 ρ3 (upd H3 p (.lst (List.set vs j v))) := .put ep hl True.intro
              have R4 := R3.put (o := .lst (List.set vs j v)) (ob := .lst (List.set xs j d)) ep hl True.intro (.lst upd_same ((hr.set rv j).mono kp))
              have g4 : Go (sy T X) ρ3 H3 ρ3 (upd H3 p (.lst (List.set vs j v))) := .put ep hl True.intro
              obtain ⟨ρ5, d5, h5, s5, R5, r5, E5, a5⟩ := a3 ρ3 .non _ g4 R4 .non
              exact a5 ρ5 σ _ .rfl R5 E5
          · cases hset
        · cases hset
      · cases hset
    · exact a3.elim
end
def gReprB : Hea → List Val → Option Val
  | _, [.bl b] => some (.str (if b = true then "True" else "False"))
  | _, [.int i] => if i.natAbs.log2 < 1920 then some (.str (toString i)) else none
  | _, [.non] => some (.str "None")
  | _, [.str x] => if (PySem.reprText x).length ≤ 16777216 then some (.str (PySem.reprText x)) else none
  | _, _ => none
section
variable {T : Tb} {X : Cx}
theorem call_repr_non : CallR X (.builtin "repr") (fun xs H Q => xs = [.non] ∧ Q (.str "None") H) := by
  intro pins s σ H xs us Q I r h
  obtain ⟨rfl, q⟩ := h
  match us, r with
  | [_], .cons rb .nil =>
    cases rb
    exact PySem.P.repr_of_none ⟨.str _, H, I.tok _, ⟨_, rfl⟩, q⟩
theorem call_repr_str : CallR X (.builtin "repr") (fun xs H Q => ∃ x, xs = [.str x] ∧ (PySem.reprText x).length ≤ sizeLine ∧ Q (.str (PySem.reprText x)) H) := by
  intro pins s σ H xs us Q I r h
  obtain ⟨x, rfl, hz, q⟩ := h
  match us, r with
  | [_], .cons rb .nil =>
    obtain ⟨t, rfl⟩ := rb
    exact PySem.P.repr_of_str ⟨.str _, H, I.tok _, ⟨_, rfl⟩, q⟩ hz
theorem call_repr_bl : CallR X (.builtin "repr") (fun xs H Q => ∃ b, xs = [.bl b] ∧ Q (.str (if b = true then "True" else "False")) H) := by
  intro pins s σ H xs us Q I r h
  obtain ⟨b, rfl, q⟩ := h
  match us, r with
  | [_], .cons rb .nil =>
    cases rb
    exact PySem.P.repr_of_bool ⟨.str _, H, I.tok _, ⟨_, rfl⟩, q⟩
theorem g_reprB : CallR X (.builtin "repr") (rC (sy T X) gReprB) := CallR.imp (CallR.or call_repr_bl (CallR.or SkE.call_repr_int (CallR.or call_repr_non call_repr_str))) fun vs H Q h => by
  obtain ⟨ρ, h, ds, R, r, a⟩ := h
  unfold gReprB at a
  split at a
  · obtain rfl := Reps.bls (ns := [_]) r
    exact .inl ⟨_, rfl, Aft.same (d := .str _) a R (.str _)⟩
  · split at a
    · rename_i hl
      obtain rfl := Reps.ints (ns := [_]) r
      exact .inr (.inl ⟨_, rfl, hl, Aft.same (d := .str _) a R (.str _)⟩)
    · exact a.elim
  · match vs, r with
    | [_], .cons q .nil =>
      cases q
      exact .inr (.inr (.inl ⟨rfl, Aft.same (d := .str _) a R (.str _)⟩))
  · split at a
    · rename_i hl
      match vs, r with
      | [_], .cons q .nil =>
        cases q
        exact .inr (.inr (.inr ⟨_, rfl, by rw [sizeLine_eq]; exact hl, Aft.same (d := .str _) a R (.str _)⟩))
    · exact a.elim
  · exact a.elim
end
def iSeq (f : En → Hea → Res Val) : En → Hea → Res Src := fun e h => (f e h).bind fun d h1 => match d with
  | .ref i => if (lstAt h1 i).isSome = true then .ok (srcLive i) h1 else .stuck
  | .tup xs => .ok (srcFix xs) h1
  | .lst xs => .ok (srcFix xs) h1
  | _ => .stuck
theorem pi_or {X : Cx} {tg e : Expr} {t u : TI} (h1 : PI X tg e t) (h2 : PI X tg e u) : PI X tg e (fun σ H R => t σ H R ∨ u σ H R) := ⟨fun pins s σ H R I q => by
  rcases q with q | q
  · exact h1.run pins s σ H R I q
  · exact h2.run pins s σ H R I q⟩
section
variable {T : Tb} {X : Cx} {W : WX} {tg a : Expr} {f : En → Hea → Res Val}
theorem si_seq (ha : SE T X W a f) : SI T X W tg a (iSeq f) := (pi_or (si_val (tg := tg) ha) (si_tup (tg := tg) ha)).imp fun σ H Q q => by
  obtain ⟨ρ, e, h, R, E, a⟩ := q
  by_cases hc : ∃ xs h1, f e h = .ok (.tup xs) h1
  · obtain ⟨xs, h1, hf⟩ := hc
    refine .inr ⟨ρ, e, h, R, E, ?_⟩
    unfold iSeq at a
    unfold iTupV
    rw [hf] at a ⊢
    exact a
  · refine .inl ⟨ρ, e, h, R, E, ?_⟩
    unfold iSeq at a
    unfold iVal
    cases hf : f e h with
    | ok d h1 =>
      rw [hf] at a
      cases d with
      | tup xs => exact absurd ⟨xs, h1, hf⟩ hc
      | _ => exact a
    | exc c d h1 => rw [hf] at a; exact a
    | stuck => rw [hf] at a; exact a
end
section
variable {T : Tb} {X : Cx} {W : WX} {a : Expr} {f : En → Hea → Res Val} {p2 pos : Pos}
def eOpt (f : Option (En → Hea → Res Val)) (e : En) (h : Hea) : Res (Option Int) := match f with
  | none => .ok none h
  | some g => (g e h).bind fun i h3 => match i with | .int i => .ok (some i) h3 | _ => .stuck
def cutL (xs : List Val) (lo hi : Option Int) : List Val := (xs.drop (HT.sIx xs.length 0 lo)).take (HT.sIx xs.length xs.length hi - HT.sIx xs.length 0 lo)
def tO (S : Sy) (W : WX) (f : Option (En → Hea → Res Val)) : TO := fun σ H Q => ∃ ρ e h, Rel S ρ h H ∧ ER S ρ H e σ ∧ (match eOpt f e h with
  | .ok l h' => ∀ ρ' H', Go S ρ H ρ' H' → Rel S ρ' h' H' → Q l H'
  | .exc c d h' => ∀ ρ' v H' dx, Go S ρ H ρ' H' → Rel S ρ' h' H' → Rep S ρ' H' d v → H' dx = some (.xd [(S.fld c, v)]) → W (.ref (S.ca c)) (some dx) σ H'
  | .stuck => False)
theorem so_none : PO X none (tO (sy T X) W none) := ⟨fun pins s σ H Q I q => po_none.run pins s σ H Q I (by
  obtain ⟨ρ, e, h, R, E, a⟩ := q
  exact a ρ H .rfl R)⟩
theorem so_some {e : Expr} (he : SE T X W e f) : PO X (some e) (tO (sy T X) W (some f)) := ⟨fun pins s σ H Q I q => (po_some he).run pins s σ H Q I (by
  obtain ⟨ρ, e, h, R, E, a⟩ := q
  refine ⟨ρ, e, h, R, E, ?_⟩
  unfold eOpt at a
  revert a
  dsimp only
  cases f e h with
  | ok d h1 =>
    intro a ρ1 v H1 s R1 r1
    cases d with
    | int i =>
      obtain rfl := r1.int_
      exact ⟨i, rfl, a ρ1 H1 s R1⟩
    | _ => exact a.elim
  | exc c d h1 => exact fun a => a
  | stuck => exact fun a => a)⟩
end
end Lad
end
section
set_option maxRecDepth 100000
set_option maxHeartbeats 2000000
namespace Lad
open PySem L2
theorem Reps.slc {S : Sy} {ρ : Own} {H : Hp} {xs : List Val} {vs : List V} (r : Reps S ρ H xs vs) (lo hi : Option Int) : Reps S ρ H (cutL xs lo hi) (cutV vs lo hi) := by
  unfold cutL cutV
  rw [r.length]
  exact (r.drop _).take _
section
variable {S : Sy} {ρ : Own} {H : Hp} {f : Option (En → Hea → Res Val)} {e : En} {h : Hea} {W : XK}
def AftO (S : Sy) (ρ : Own) (H : Hp) (r : Res (Option Int)) (Q : Option Int → Hp → Prop) (W : XK) : Prop := match r with
  | .ok l h' => ∀ ρ' H', Go S ρ H ρ' H' → Rel S ρ' h' H' → Q l H'
  | .exc c d h' => ∀ ρ' v H' dx, Go S ρ H ρ' H' → Rel S ρ' h' H' → Rep S ρ' H' d v → H' dx = some (.xd [(S.fld c, v)]) → W (.ref (S.ca c)) (some dx) H'
  | .stuck => False
theorem AftO.bind {r : Res (Option Int)} {k : Option Int → Hea → Res Val} {Q : VK} (a : Aft S ρ H (r.bind k) Q W) : AftO S ρ H r (fun l H1 => ∃ ρ1 h1, Go S ρ H ρ1 H1 ∧ Rel S ρ1 h1 H1 ∧ Aft S ρ1 H1 (k l h1) Q W) W := by
  cases r with
  | ok l h => exact fun ρ1 H1 s R => ⟨ρ1, h, s, R, Aft.later (r := k l h) a s⟩
  | exc c d h => exact a
  | stuck => exact a
theorem AftO.mono {r : Res (Option Int)} {Q Q' : Option Int → Hp → Prop} (a : AftO S ρ H r Q W) (h : ∀ v H', Q v H' → Q' v H') : AftO S ρ H r Q' W := by
  cases r with
  | ok l h1 => exact fun ρ1 H1 s R => h _ _ (a ρ1 H1 s R)
  | exc c d h => exact a
  | stuck => exact a
end
section
variable {T : Tb} {X : Cx} {W : WX} {a : Expr} {lo hi : Option Expr} {f : En → Hea → Res Val} {l u : Option (En → Hea → Res Val)} {p2 pos : Pos}
theorem cutL_whole {xs : List Val} {l u : Option Int} (h : HT.sIx xs.length 0 l = 0 ∧ HT.sIx xs.length xs.length u = xs.length) : cutL xs l u = xs := by
  unfold cutL
  rw [h.1, h.2]
  simp
end
end Lad
end
section
set_option maxRecDepth 100000
set_option maxHeartbeats 2000000
namespace Lad
open PySem
open L2 PySem.Spec PyProof.Rows
inductive ZK where
  | L | T
def ZK.sq : ZK → PySem.W.Frag → Hp → Addr → List V → Prop
  | .L => SqL
  | .T => SqT
def ZK.itr : ZK → Heap → Addr → Addr → Nat → Prop
  | .L => Heap.IsListIter
  | .T => Heap.IsTupleIter
def ZK.here : ZK → Heap → Addr → Array Value → Prop
  | .L => Heap.IsList
  | .T => Heap.IsTuple
def ZK.obj : ZK → Addr → Obj
  | .L, a => { cls := .type "list_iterator", data := .fields #[.ref a, .int 0 0] }
  | .T, a => { cls := .type "tuple_iterator", data := .fields #[.ref a, .int 0 0] }
section
variable {P : Program} {w : World} {A : Around} {K : PySem.W.Frag}
theorem ZK.begins : ∀ (k : ZK) (a : Addr) (its : Array Value), Begins (.ref a) (k.obj a) (fun h => k.here h a its)
  | .L, a, its => begins_list a its
  | .T, a, its => begins_tuple a its
theorem ZK.draws (hh : A.handled = none) : ∀ (k : ZK) (it a : Addr), a ≠ it → ∀ its : Array Value, Draws P w A it [it, a] its.size (fun i v => its[i]? = some v) (fun i h => k.itr h it a i ∧ k.here h a its)
  | .L, it, a, ne, its => Draws.list hh it a ne its
  | .T, it, a, ne, its => Draws.tuple hh it a ne its
theorem ZK.start : ∀ {k : ZK} {h : Heap} {it a : Addr}, h.get? it = some (k.obj a) → k.itr h it a 0
  | .L, _, _, _, e => ⟨_, e, rfl, rfl⟩
  | .T, _, _, _, e => ⟨_, e, rfl, rfl⟩
theorem ZK.stay : ∀ {k : ZK} {h h' : Heap} {it a : Addr} {i : Nat}, k.itr h it a i → (∀ o, h.get? it = some o → h'.get? it = some o) → k.itr h' it a i
  | .L, _, _, _, _, _, x, q => x.at q
  | .T, _, _, _, _, _, x, q => x.at q
theorem ZK.lives : ∀ {k : ZK} {h : Heap} {it a : Addr} {i : Nat}, k.itr h it a i → ∃ o, h.get? it = some o ∧ ∀ v, o.data ≠ .cell v
  | .L, _, _, _, _, ⟨o, e, _, d⟩ => ⟨o, e, fun v z => by rw [d] at z; cases z⟩
  | .T, _, _, _, _, ⟨o, e, _, d⟩ => ⟨o, e, fun v z => by rw [d] at z; cases z⟩
theorem ZK.read {X : Cx} {pins : List (Addr × Obj)} {σ : L2.St} {H : Hp} {s : Shared} (I : Inv X pins σ H s) : ∀ {k : ZK} {a : Addr} {xs : List V}, k.sq X.K H a xs → ∃ its : List Value, Vals xs its ∧ k.here s.heap a its.toArray ∧ a < s.heap.objs.size
  | .L, a, xs, q => by
    obtain ⟨its, rv, p, _⟩ := I.list q
    exact ⟨its, rv, p.isList, p.lt⟩
  | .T, a, xs, q => by
    obtain ⟨its, rv, p, _⟩ := I.tuple q
    obtain ⟨o, e, _⟩ := id p
    exact ⟨its, rv, p, Heap.lt_size e⟩
theorem ZK.one {X : Cx} {pins : List (Addr × Obj)} {σ : L2.St} {H : Hp} {s : Shared} (I : Inv X pins σ H s) : ∀ {k : ZK} {a : Addr} {xs ys : List V}, k.sq X.K H a xs → k.sq X.K H a ys → xs = ys
  | .L, _, _, _, p, q => I.list_inj p q
  | .T, _, _, _, p, q => I.tuple_inj p q
def ItzM (K : PySem.W.Frag) (k1 k2 : ZK) (a b : Addr) : It where
  go := fun i H => ∃ (xs ys : List V) (x y : V), k1.sq K H a xs ∧ k2.sq K H b ys ∧ xs[i]? = some x ∧ ys[i]? = some y
  yld := fun i H v H' => ∃ t x y ob, v = .ref t ∧ H t = none ∧ ob.dict = none ∧ H' = upd H t (.frz ob (.tup [x, y])) ∧ (∀ xs, k1.sq K H a xs → xs[i]? = some x) ∧ (∀ ys, k2.sq K H b ys → ys[i]? = some y)
  stop := fun i H => ∃ xs ys : List V, k1.sq K H a xs ∧ k2.sq K H b ys ∧ i ≤ xs.length ∧ i ≤ ys.length ∧ (i = xs.length ∨ i = ys.length)
theorem turn_zm {elts : List Expr} {kk : Nat} {tpos : Pos} {k1 k2 : ZK} {a b n : Addr} (ha : a < n) (hb : b < n) :
    Turn P w K (.Tuple elts kk tpos) (ItzM K k1 k2 a b) [n + 4, n + 2, n + 3, n, n + 1] (n + 4) (fun i h => IsZip h (n + 4) (n + 2) (n + 3) .none ∧ IsTupOf2 h (n + 2) (.ref n) (.ref (n + 1)) ∧ (∃ x y, IsTupOf2 h (n + 3) x y) ∧ k1.itr h n a i ∧ k2.itr h (n + 1) b i) where
  mem := by simp
  obj := by
    rintro i h ⟨z1, z2, ⟨x, y, z3⟩, j1, j2⟩ c hc
    rcases (show c = n + 4 ∨ c = n + 2 ∨ c = n + 3 ∨ c = n ∨ c = n + 1 by simpa using hc) with rfl | rfl | rfl | rfl | rfl
    · exact ⟨_, z1, fun v z => nomatch z⟩
    · exact ⟨_, z2, fun v z => nomatch z⟩
    · exact ⟨_, z3, fun v z => nomatch z⟩
    · exact ZK.lives (k := k1) j1
    · exact ZK.lives (k := k2) j2
  keep := by
    rintro i h h' ⟨z1, z2, ⟨x, y, z3⟩, j1, j2⟩ k
    exact ⟨k _ (by simp) _ z1, k _ (by simp) _ z2, ⟨x, y, k _ (by simp) _ z3⟩, ZK.stay (k := k1) j1 fun o z => k _ (by simp) o z, ZK.stay (k := k2) j2 fun o z => k _ (by simp) o z⟩
  item := by
    intro X eP ew eK hc i pins s σ H E I hf st hg
    subst eP ew eK
    obtain ⟨z1, z2, ⟨x0, y0, z3⟩, j1, j2⟩ := st
    obtain ⟨xs, ys, x, y, q1, q2, e1, e2⟩ := hg
    obtain ⟨us, r1, p1, _⟩ := ZK.read I q1
    obtain ⟨vs, r2, p2, _⟩ := ZK.read I q2
    obtain ⟨u, hu, ru⟩ := r1.get e1
    obtain ⟨v, hv, rv⟩ := r2.get e2
    have l1 : i < us.toArray.size := by simpa using (List.getElem?_eq_some_iff.mp hu).1
    have l2 : i < vs.toArray.size := by simpa using (List.getElem?_eq_some_iff.mp hv).1
    have D1 := ZK.draws (P := X.prog) (w := X.w) (A := X.A.in1) (I.ok.hd hc) k1 n a (Nat.ne_of_lt ha) us.toArray
    have D2 := ZK.draws (P := X.prog) (w := X.w) (A := X.A.in1) (I.ok.hd hc) k2 (n + 1) b (Nat.ne_of_lt (Nat.lt_succ_of_lt hb)) vs.toArray
    have sep : ZipSep2 (n + 4) (n + 2) (n + 3) n (n + 1) [n, a] [n + 1, b] := zip_sep2 (N := n) (fp1 := [a]) (fp2 := [b]) (by simpa using ha) (by simpa using hb)
    have lz : (n + 4 : Nat) < s.heap.objs.size := Heap.lt_size z1
    refine wpAny_pyNext_zipD2_item sep D1 D2 z1 z2 z3 ⟨j1, p1⟩ ⟨j2, p2⟩ l1 l2 fun u' v' h1 tk eu ev w1 w3 w4 w5 w6 sz k => ?_
    have eu : u' = u := by
      have : us.toArray[i]? = some u := by simpa using hu
      exact (Option.some.inj (this.symm.trans eu)).symm
    have ev : v' = v := by
      have : vs.toArray[i]? = some v := by simpa using hv
      exact (Option.some.inj (this.symm.trans ev)).symm
    subst eu ev
    refine ⟨_, rfl, wpAny_letOwnedTupleGo_zip (s := { s with heap := h1, toks := tk }) w1 fun h2 w1' sb => ?_⟩
    have bz : ∀ c o, c ≠ (n + 4 : Nat) → h1.get? c = some o → h2.get? c = some o := fun c o ne z => (sb.2 c ne).trans z
    have kz : ∀ c o, c ∉ [(n + 4 : Nat), n + 2, n + 3, n, n + 1] → s.heap.get? c = some o → h2.get? c = some o := fun c o ne z =>
      bz c o (fun q => ne (by simp [q])) (k c o (fun q => ne (by simp [q])) (fun q => ne (by simp [q])) (fun q => ne (by simp [q])) (fun q => ne (by simp [q])) z)
    have hT : IsTupOf2 h2 s.heap.objs.size u' v' := bz _ _ (Nat.ne_of_gt lz) w6
    have nw : ObjOk X.prog X.w (upd H s.heap.objs.size (.frz (tuO [u', v']) (.tup [x, y]))) h2 s.heap.objs.size (.frz (tuO [u', v']) (.tup [x, y])) := ⟨hT, by show 2 ≤ sizeLine; decide, [u', v'], .cons ru (.cons rv .nil), ⟨_, hT, rfl, _, rfl⟩⟩
    have J := I.turnedNew (t' := tk) (ch := [n + 4, n + 2, n + 3, n, n + 1]) (fun c o hb q => kz c o hb q) hf (Nat.le_refl _) nw
    refine ⟨.ref s.heap.objs.size, _, J, rfl, ⟨_, x, y, _, rfl, I.hok.fresh (Nat.le_refl _), rfl, rfl, fun l hl => by rw [ZK.one I hl q1]; exact e1, fun l hl => by rw [ZK.one I hl q2]; exact e2⟩, ⟨w1', ?_, ⟨u', v', ?_⟩, ?_, ?_⟩, fun c hcm => ?_⟩
    · exact bz _ _ sep.TIz (k _ _ sep.TIz sep.TITO sep.TIi1 sep.TIi2 z2)
    · exact bz _ _ sep.TOz w3
    · exact ZK.stay (k := k1) w4.1 fun o z => bz _ o (Ne.symm sep.zi1) z
    · exact ZK.stay (k := k2) w5.1 fun o z => bz _ o (Ne.symm sep.zi2) z
    · have lt : c < s.heap.objs.size := by
        have : (c : Nat) ≤ n + 4 := by
          rcases (show c = n + 4 ∨ c = n + 2 ∨ c = n + 3 ∨ c = n ∨ c = n + 1 by simpa using hcm) with e | e | e | e | e <;> (rw [e]; show (_ : Nat) ≤ n + 4; omega)
        exact Nat.lt_of_le_of_lt this lz
      rw [upd_ne (Nat.ne_of_lt lt)]
      exact (hf c hcm).1
  done := by
    intro X eP ew eK hc i pins s σ H E I hf st hg
    subst eP ew eK
    obtain ⟨z1, z2, ⟨x0, y0, z3⟩, j1, j2⟩ := st
    obtain ⟨xs, ys, q1, q2, n1, n2, en⟩ := hg
    obtain ⟨us, r1, p1, _⟩ := ZK.read I q1
    obtain ⟨vs, r2, p2, _⟩ := ZK.read I q2
    have D1 := ZK.draws (P := X.prog) (w := X.w) (A := X.A.in1) (I.ok.hd hc) k1 n a (Nat.ne_of_lt ha) us.toArray
    have D2 := ZK.draws (P := X.prog) (w := X.w) (A := X.A.in1) (I.ok.hd hc) k2 (n + 1) b (Nat.ne_of_lt (Nat.lt_succ_of_lt hb)) vs.toArray
    have sep : ZipSep2 (n + 4) (n + 2) (n + 3) n (n + 1) [n, a] [n + 1, b] := zip_sep2 (N := n) (fp1 := [a]) (fp2 := [b]) (by simpa using ha) (by simpa using hb)
    have m1 : us.toArray.size = xs.length := by rw [List.size_toArray, r1.length]
    have m2 : vs.toArray.size = ys.length := by rw [List.size_toArray, r2.length]
    refine wpAny_pyNext_zipD2_end sep D1 D2 z1 z2 z3 ⟨j1, p1⟩ ⟨j2, p2⟩ (by omega) (by omega) (by omega) fun h1 tk k => ⟨rfl, ?_⟩
    exact I.turnedL (t' := tk) (ch := [n + 4, n + 2, n + 3, n, n + 1]) (fun c o hb z => k c o (fun q => hb (by simp [q])) (fun q => hb (by simp [q])) (fun q => hb (by simp [q])) (fun q => hb (by simp [q])) z) hf
  self := fun A i s Q E st h => wpAny_pyIter_zip st.1 h
end
def iZm (K : PySem.W.Frag) (k1 k2 : ZK) (ta : TA) : TI := fun σ H R => ta σ H fun vs H1 => ∃ a b xs ys, vs = [.ref a, .ref b] ∧ k1.sq K H1 a xs ∧ k2.sq K H1 b ys ∧ R (ItzM K k1 k2 a b) H1
theorem pi_zm (k1 k2 : ZK) {X : Cx} {e e2 : Expr} {ta : TA} {p pos tpos : Pos} {elts : List Expr} {kk : Nat} (hg : Gl X "zip") (hm : X.mg "zip" = none) (ha : PA X [e, e2] ta)
    (hs : starEach [e, e2] X.env = (false, eval e X.env) :: starEach [e2] X.env := by rfl) (hpl : (backTo pos (starEach [e2] X.env)).any (·.1) = false := by rfl) :
    PI X (.Tuple elts kk tpos) (.Call (.Name "zip" p) [e, e2] [] pos) (iZm X.K k1 k2 ta) := by
  refine ⟨?_⟩
  intro pins s σ H R I hw
  have given := ha.run pos pins s σ H _ I hw
  refine Call_ (ld_blt I hg hm PyProof.Rows.boot_zip (PyProof.Rows.callWith_type1 (thn given ?_) hs hpl))
  rintro us s1 ⟨vs, H1, I1, r1, a, b, xs, ys, rfl, q1, q2, q⟩
  match us, r1 with
  | [u, v], .cons ru (.cons rv .nil) =>
    have eu : u = Value.ref a := ru
    have ev : v = Value.ref b := rv
    subst eu ev
    obtain ⟨is, _, p1, la⟩ := ZK.read I1 q1
    obtain ⟨js, _, p2, lb⟩ := ZK.read I1 q2
    refine zip_begins2 (k1.begins a is.toArray) (k2.begins b js.toArray) p1 p2 fun h' z1 z2 z3 o1 o2 sz k => wpAny_pyIter_zip z1 ?_
    have I2 : Inv X pins σ H1 { s1 with heap := h' } := I1.kept (t' := s1.toks) k
    refine ⟨_, _, _, _, H1, rfl, I2, turn_zm (n := s1.heap.objs.size) la lb, ⟨z1, z2, ⟨_, _, z3⟩, ZK.start o1, ZK.start o2⟩, fun c hc => ?_, q⟩
    have le : s1.heap.objs.size ≤ c := by
      rcases (show c = s1.heap.objs.size + 4 ∨ c = s1.heap.objs.size + 2 ∨ c = s1.heap.objs.size + 3 ∨ c = s1.heap.objs.size ∨ c = s1.heap.objs.size + 1 by simpa using hc) with e | e | e | e | e <;> (rw [e]; first | exact Nat.le_refl _ | exact Nat.le_add_right _ _)
    exact I1.fpOk le (I1.hok.fresh le)
open L2 PySem.Spec PyProof.Rows
end Lad
end
section
set_option maxRecDepth 100000
set_option maxHeartbeats 2000000
namespace Lad
open PySem L2
open PySem.W (Frag)
def all2 {α β : Type} (f : α → β → Bool) : List α → List β → Bool
  | [], [] => true
  | a :: as, b :: bs => f a b && all2 f as bs
  | _, _ => false
def cstB : Nat → Frag → Val → Value → Bool
  | _, _, .non, .none => true
  | _, _, .bl b, .bool c => b == c
  | _, _, .int i, .int j _ => decide (i = j)
  | _, _, .str x, .str y _ => decide (x = y)
  | n + 1, K, .tup ds, .ref a => (match K.lookup a with
    | some ⟨.type c, none, .seq its _, _⟩ => decide (c = "tuple") && (decide (its.size ≤ sizeLine) && all2 (cstB n K) ds its.toList)
    | _ => false)
  | _, _, _, _ => false
def CstV (K : Frag) (d : Val) (u : Value) : Prop := ∃ v, RelV v u ∧ ∀ (S : Sy) (ρ : Own) (H : Hp), S.K = K → Rep S ρ H d v
theorem all2_cst {n : Nat} {K : Frag} (ih : ∀ (d : Val) (u : Value), cstB n K d u = true → CstV K d u) : ∀ (ds : List Val) (us : List Value), all2 (cstB n K) ds us = true → ∃ vs, Vals vs us ∧ ∀ (S : Sy) (ρ : Own) (H : Hp), S.K = K → Reps S ρ H ds vs
  | [], [], _ => ⟨[], .nil, fun _ _ _ _ => .nil⟩
  | [], _ :: _, h => by cases h
  | _ :: _, [], h => by cases h
  | d :: ds, u :: us, h => by
    obtain ⟨h1, h2⟩ := Bool.and_eq_true_iff.mp (show (cstB n K d u && all2 (cstB n K) ds us) = true from h)
    obtain ⟨v, r, q⟩ := ih d u h1
    obtain ⟨vs, rs, qs⟩ := all2_cst ih ds us h2
    exact ⟨v :: vs, .cons r rs, fun S ρ H e => .cons (q S ρ H e) (qs S ρ H e)⟩
theorem cstB_ok : ∀ (n : Nat) (K : Frag) (d : Val) (u : Value), cstB n K d u = true → CstV K d u := by
  intro n
  induction n with
  | zero =>
    intro K d u h
    unfold cstB at h
    split at h
    · exact ⟨.non, rfl, fun _ _ _ _ => .non⟩
    · obtain rfl := eq_of_beq h
      exact ⟨.bl _, rfl, fun _ _ _ _ => .bl _⟩
    · obtain rfl := of_decide_eq_true h
      exact ⟨.int _, ⟨_, rfl⟩, fun _ _ _ _ => .int _⟩
    · obtain rfl := of_decide_eq_true h
      exact ⟨.str _, ⟨_, rfl⟩, fun _ _ _ _ => .str _⟩
    · rename_i e; first | (exact absurd ‹0 = Nat.succ _› (by simp)) | (exact nomatch ‹0 = Nat.succ _›)
    · cases h
  | succ n ih =>
    intro K d u h
    unfold cstB at h
    split at h
    · exact ⟨.non, rfl, fun _ _ _ _ => .non⟩
    · obtain rfl := eq_of_beq h
      exact ⟨.bl _, rfl, fun _ _ _ _ => .bl _⟩
    · obtain rfl := of_decide_eq_true h
      exact ⟨.int _, ⟨_, rfl⟩, fun _ _ _ _ => .int _⟩
    · obtain rfl := of_decide_eq_true h
      exact ⟨.str _, ⟨_, rfl⟩, fun _ _ _ _ => .str _⟩
    · rename_i m ds a e
      cases e
      split at h
      · rename_i c its k osl lk
        simp only [Bool.and_eq_true] at h
        obtain ⟨h1, h2, h3⟩ := h
        have h1 := of_decide_eq_true h1
        have h2 := of_decide_eq_true h2
        subst h1
        obtain ⟨vs, rv, q⟩ := all2_cst (ih _) ds its.toList h3
        exact ⟨.ref a, rfl, fun S ρ H e => .tup (.inr ⟨_, its, k, by rw [e]; exact lk, rfl, rfl, rfl, h2, rv⟩) (q S ρ H e)⟩
      · cases h
    · cases h
/-- the module's name x stands for d -/
def conB (x : Str) (d : Val) (K : Frag) : Bool := match PySem.W.nsIn K mainGlobals x with
  | some (some u) => cstB 8 K d u
  | _ => false
def ConOk (K : Frag) (mg : Str → Option Value) (x : Str) (d : Val) : Prop := ∃ u, mg x = some u ∧ CstV K d u
theorem conB_ok {K : Frag} {h : Heap} {mg : Str → Option Value} {x : Str} {d : Val} (X : K.In h) (G : h.Ns mainGlobals mg) (c : conB x d K = true) : ConOk K mg x d := by
  unfold conB at c
  split at c
  · rename_i u e
    exact ⟨u, PySem.W.mg_of X G e, cstB_ok 8 K d u c⟩
  · cases c
section
variable {T : Tb} {X : Cx} {W : WX} {x : Str} {d : Val} {pos : Pos}
theorem se_con (c : ConOk X.K X.mg x d) (hg : Gl X x := by rfl) (hd : (x == ("__debug__" : Str)) = false := by decide) : SE T X W (.Name x pos) (eC d) := by
  obtain ⟨u, m, v, r, q⟩ := c
  exact se_cst (pe_glob hg m r hd) fun ρ H => q _ ρ H rfl
end
theorem Reps.append {S : Sy} {ρ : Own} {H : Hp} : ∀ {ds es : List Val} {vs us : List V}, Reps S ρ H ds vs → Reps S ρ H es us → Reps S ρ H (ds ++ es) (vs ++ us)
  | _, _, _, _, .nil, q => q
  | _, _, _, _, .cons r t, q => .cons r (Reps.append t q)
def eApp (f g : En → Hea → Res Val) : En → Hea → Res Val := fun e h => (f e h).bind fun o h1 => match o with
  | .ref i => match h1[i]? with
    | some (.lst _) => (g e h1).bind fun y h2 => match h2[i]? with
      | some (.lst xs) => if xs.length < 16777216 then .ok .non (h2.set i (.lst (xs ++ [y]))) else .stuck
      | _ => .stuck
    | _ => .stuck
  | _ => .stuck
section
variable {T : Tb} {X : Cx} {W : WX} {o a : Expr} {f g : En → Hea → Res Val} {apos cpos : Pos}
theorem se_app (ho : SE T X W o f) (ha : SE T X W a g)
    (hbase : attributeBase o "append" X.env (eval o X.env) = eval o X.env := by rfl)
    (hfew : ((backTo cpos (starEach (a :: []) X.env)).all (fun x => !x.1) && (backToKw cpos (keywordEach [] X.env)).all (fun x => x.1.isSome)
      && decide ((a :: []).length + ([] : List Keyword).length + (if ([] : List Keyword).isEmpty then 0 else 1) < 30)) = true := by rfl)
    (hline : (apos.endLine == cpos.line) = true := by rfl) (hs : starEach (a :: []) X.env = (false, eval a X.env) :: starEach [] X.env := by rfl) (hplain : (backTo cpos (starEach [] X.env)).any (·.1) = false := by rfl) :
    SE T X W (.Call (.Attribute o "append" apos) [a] [] cpos) (eApp f g) :=
  (pe_bm PySem.F.plainAttrs_list PySem.F.slot_list_append PySem.F.type_list_append mt_append ho (pa_cons ha pa_nil hs) hbase hfew hline hs hplain).imp fun σ H Q q => by
    obtain ⟨ρ, e, h, R, E, a⟩ := q
    unfold eApp at a
    refine ⟨ρ, e, h, R, E, a.bind.mono fun ov H1 ⟨ρ1, od, h1, s, R1, r1, a1⟩ => ?_⟩
    split at a1
    · rename_i i
      split at a1
      · rename_i xs0 hx0
        obtain ⟨p, rfl, ep⟩ := r1.ref_
        have ob := R1.ob _ _ _ hx0 ep
        cases ob with
        | @lst _ vs0 _ hl0 hr0 =>
          refine ⟨.inl ⟨rfl, vs0, .inl (.inl hl0)⟩, ρ1, e, h1, R1, E.go s, a1.bind.mono fun yv H2 ⟨ρ2, yd, h2, s2, R2, r2, a2⟩ => ?_⟩
          split at a2
          · rename_i xs hx
            split at a2
            · rename_i hlen
              have ep2 := s2.sub _ _ ep
              have ob2 := R2.ob _ _ _ hx ep2
              cases ob2 with
              | @lst _ vs _ hl hr =>
                refine ⟨p, vs, yv, rfl, rfl, hl, by rw [sizeLine_eq, ← hr.length]; exact hlen, ?_⟩
                have kp : Mv (sy T X) ρ2 H2 ρ2 (upd H2 p (.lst (vs ++ [yv]))) := .put ep2 hl True.intro
                have R4 := R2.put (o := .lst (vs ++ [yv])) (ob := .lst (xs ++ [yd])) ep2 hl True.intro (.lst upd_same ((hr.append (.cons r2 .nil)).mono kp))
                exact a2 ρ2 .non _ (.put ep2 hl True.intro) R4 .non
            · exact a2.elim
          · exact a2.elim
      · exact a1.elim
    · exact a1.elim
end
end Lad
end
section
set_option maxRecDepth 100000
set_option maxHeartbeats 2000000
namespace Lad
open PySem L2
open PySem.W (Frag)
def NmOk (T : Tb) : Prop := ∀ m n : Nat, m < 100 → n < 100 → T.nm m = T.nm n → m = n
def lkF : List (Nat × Val) → Nat → Option Val
  | [], _ => none
  | (m, d) :: r, n => if m = n then some d else if m < 100 then lkF r n else none
def noF : List (Nat × Val) → Nat → Bool
  | [], _ => true
  | (m, _) :: r, n => if m = n then false else if m < 100 then noF r n else false
def putN (n : Nat) (d : Val) : List (Nat × Val) → Option (List (Nat × Val))
  | [] => some [(n, d)]
  | (m, x) :: r => if m = n then some ((m, d) :: r) else if m < 100 then (putN n d r).map ((m, x) :: ·) else none
section
variable {T : Tb} {K : Frag} {ex : Option (Addr × Nat × Addr)} {ρ : Own} {H : Hp}
theorem FsR.look {S : Sy} (nk : ∀ m n : Nat, m < 100 → n < 100 → S.nm m = S.nm n → m = n) {n : Nat} (hn : n < 100) : ∀ {fs : List (Nat × Val)} {vs : List (Str × V)} {d : Val}, FsR S ρ H fs vs → lkF fs n = some d → ∃ v, vs.lookup (S.nm n) = some v ∧ Rep S ρ H d v
  | _, _, d, .nil, e => by cases e
  | _, _, d, .cons (n := m) (d := d') (v := v) (ds := ds) (vs := vs) r t, e => by
    unfold lkF at e
    by_cases hm : m = n
    · subst hm
      rw [if_pos rfl] at e
      cases e
      exact ⟨v, by rw [List.lookup_cons]; simp, r⟩
    · rw [if_neg hm] at e
      by_cases hb : m < 100
      · rw [if_pos hb] at e
        obtain ⟨u, h1, h2⟩ := FsR.look nk hn t e
        refine ⟨u, ?_, h2⟩
        have hne : (S.nm n == S.nm m) = false := by
          cases q : S.nm n == S.nm m with
          | false => rfl
          | true => exact absurd (nk m n hb hn (eq_of_beq q).symm) hm
        rw [List.lookup_cons, hne]
        exact h1
      · rw [if_neg hb] at e
        cases e
theorem FsR.lookNo {S : Sy} (nk : ∀ m n : Nat, m < 100 → n < 100 → S.nm m = S.nm n → m = n) {n : Nat} (hn : n < 100) : ∀ {fs : List (Nat × Val)} {vs : List (Str × V)}, FsR S ρ H fs vs → noF fs n = true → vs.lookup (S.nm n) = none
  | _, _, .nil, e => rfl
  | _, _, .cons (n := m) (d := d') (v := v) (ds := ds) (vs := vs) r t, e => by
    unfold noF at e
    by_cases hm : m = n
    · rw [if_pos hm] at e
      cases e
    · rw [if_neg hm] at e
      by_cases hb : m < 100
      · rw [if_pos hb] at e
        have hne : (S.nm n == S.nm m) = false := by
          cases q : S.nm n == S.nm m with
          | false => rfl
          | true => exact absurd (nk m n hb hn (eq_of_beq q).symm) hm
        rw [List.lookup_cons, hne]
        exact FsR.lookNo nk hn t e
      · rw [if_neg hb] at e
        cases e
theorem FsR.put {S : Sy} (nk : ∀ m n : Nat, m < 100 → n < 100 → S.nm m = S.nm n → m = n) {n : Nat} (hn : n < 100) {d : Val} {v : V} (rv : Rep S ρ H d v) : ∀ {fs gs : List (Nat × Val)} {vs : List (Str × V)}, FsR S ρ H fs vs → putN n d fs = some gs → FsR S ρ H gs (putF (S.nm n) v vs)
  | _, _, _, .nil, e => by
    cases e
    exact .cons rv .nil
  | _, gs, _, .cons (n := m) (d := d') (v := v') (ds := ds) (vs := vs) r t, e => by
    unfold putN at e
    by_cases hm : m = n
    · subst hm
      rw [if_pos rfl] at e
      cases e
      unfold putF
      rw [if_pos rfl]
      exact .cons rv t
    · rw [if_neg hm] at e
      by_cases hb : m < 100
      · rw [if_pos hb] at e
        cases q : putN n d ds with
        | none => rw [q] at e; cases e
        | some g2 =>
          rw [q] at e
          cases e
          have hne : ¬ S.nm m = S.nm n := fun z => hm (nk m n hb hn z)
          unfold putF
          rw [if_neg hne]
          exact .cons r (FsR.put nk hn rv t q)
      · rw [if_neg hb] at e
        cases e
theorem FsR.length {S : Sy} : ∀ {fs : List (Nat × Val)} {vs : List (Str × V)}, FsR S ρ H fs vs → fs.length = vs.length
  | _, _, .nil => rfl
  | _, _, .cons _ t => by simp [FsR.length t]
end
/-- an instance, to be read -/
def insOf (h : Hea) : Val → Option (Nat × List (Nat × Val))
  | .obj c ns vs => some (c, ns.zip vs)
  | .ref i => match h[i]? with
    | some (.ins c fs) => some (c, fs)
    | _ => none
  | _ => none
theorem FsR.zip {S : Sy} {ρ : Own} {H : Hp} : ∀ {ns : List Nat} {ds : List Val} {ps : List (Str × V)}, ps.map (·.1) = ns.map S.nm → Reps S ρ H ds (ps.map (·.2)) → FsR S ρ H (ns.zip ds) ps
  | [], ds, [], _, r => by cases r; exact .nil
  | [], ds, p :: ps, e, _ => by cases e
  | n :: ns, ds, [], e, _ => by cases e
  | n :: ns, _, p :: ps, e, .cons r t => by
    obtain ⟨x, v⟩ := p
    simp only [List.map_cons, List.cons.injEq] at e
    obtain ⟨rfl, e⟩ := e
    exact .cons r (FsR.zip e t)
theorem ins_of {S : Sy} {ρ : Own} {H : Hp} {h : Hea} {d : Val} {v : V} {c : Nat} {fs : List (Nat × Val)} (R : Rel S ρ h H) (r : Rep S ρ H d v) (e : insOf h d = some (c, fs)) : ∃ a dx ps, v = .ref a ∧ H a = some (.ins (S.ca c) dx ps) ∧ FsR S ρ H fs ps := by
  unfold insOf at e
  split at e
  · cases e
    cases r with
    | obj f h1 e1 e2 r => subst e2; exact ⟨_, _, _, rfl, h1, FsR.zip e1 r⟩
  · obtain ⟨p, rfl, ep⟩ := r.ref_
    split at e
    · rename_i hx
      cases e
      have o := R.ob _ _ _ hx ep
      cases o with
      | ins h1 h2 => exact ⟨p, _, _, rfl, h1, h2⟩
    · cases e
  · cases e
/-- e.f -/
def eFld (ok : Nat → Bool) (n : Nat) (f : En → Hea → Res Val) : En → Hea → Res Val := fun e h => (f e h).bind fun o h1 => match insOf h1 o with
  | some (c, fs) => if ok c = true then (match lkF fs n with
    | some d => .ok d h1
    | none => .stuck) else .stuck
  | none => .stuck
/-- e.f = value -/
def sFldV (ok : Nat → Bool) (n : Nat) (fo fv : En → Hea → Res Val) : En → Hea → SRes := fun e h => ofR ((fv e h).bind fun v h1 => (fo e h1).bind fun o h2 => match o with
  | .ref i => match h2[i]? with
    | some (.ins c fs) => if ok c = true ∧ fs.length < 1000 then (match putN n v fs with
      | some gs => .ok Val.non (h2.set i (.ins c gs))
      | none => .stuck) else .stuck
    | _ => .stuck
  | _ => .stuck) e fun _ h3 => .nx e h3
section
variable {T : Tb} {X : Cx} {W : WX} {a o : Expr} {f g : En → Hea → Res Val} {pos pos' : Pos} {ok : Nat → Bool} {n : Nat} {fn : Str}
theorem se_fld (nk : NmOk T) (hn : n < 100) (hf : T.nm n = fn) (hok : ∀ c, ok c = true → Cls X.K (T.ca c) ∧ NoAttr X.K (T.ca c) fn) (ha : SE T X W a f) (hb : attributeBase a fn X.env (eval a X.env) = eval a X.env := by rfl) : SE T X W (.Attribute a fn pos) (eFld ok n f) :=
  (pe_fld ha hb).imp fun σ H Q q => by
    obtain ⟨ρ, e, h, R, E, a⟩ := q
    unfold eFld at a
    refine ⟨ρ, e, h, R, E, a.bind.mono fun ov H1 ⟨ρ1, od, h1, s, R1, r1, a1⟩ => ?_⟩
    split at a1
    · rename_i c fs hx
      obtain ⟨p, dx, vs, rfl, hi, hfs⟩ := ins_of R1 r1 hx
      split at a1
      · rename_i hc
        split at a1
        · rename_i d hd
          obtain ⟨v, e1, e2⟩ := FsR.look (S := sy T X) nk hn hfs hd
          exact ⟨p, _, dx, vs, v, rfl, hi, (hok c hc).1, (hok c hc).2, by rw [← hf]; exact e1, a1.same R1 e2⟩
        · exact a1.elim
      · exact a1.elim
    · exact a1.elim
theorem st_fld (nk : NmOk T) (hn : n < 100) (hf : T.nm n = fn) (hok : ∀ c, ok c = true → Cls X.K (T.ca c) ∧ NoAttr X.K (T.ca c) fn) (ho : SE T X W o f) (hv : SE T X W a g) (hs : swapsWith a (some (.Attribute o fn pos')) pos.line X.env = pure false := by rfl) : SSt T X W (.Assign [.Attribute o fn pos'] a pos) (sFldV ok n f g) :=
  (ps_fld ho hv hs).imp fun D σ H q => by
    obtain ⟨ρ, e, h, R, E, a⟩ := q
    unfold sFldV at a
    have a := (AftS.ofR a E).bind
    refine ⟨ρ, e, h, R, E, a.mono fun yv H1 ⟨ρ1, yd, h1, s1, R1, r1, a1⟩ => ⟨ρ1, e, h1, R1, E.go s1, a1.bind.mono fun ov H2 ⟨ρ2, od, h2, s2, R2, r2, a2⟩ => ?_⟩⟩
    split at a2
    · split at a2
      · rename_i i c fs hx
        obtain ⟨p, rfl, ep⟩ := r2.ref_
        split at a2
        · rename_i hc
          split at a2
          · rename_i gs hg
            have ob := R2.ob _ _ _ hx ep
            cases ob with
            | @ins _ _ vs _ dx hi hfs =>
              have hl := hfs.length
              refine ⟨p, _, dx, vs, rfl, hi, (hok c hc.1).1, (hok c hc.1).2, by omega, ?_⟩
              have kp : Mv (sy T X) ρ2 H2 ρ2 (upd H2 p (.ins (T.ca c) dx (putF (T.nm n) yv vs))) := .put ep hi True.intro
              have R4 := R2.put (o := .ins (T.ca c) dx (putF (T.nm n) yv vs)) (ob := .ins c gs) ep hi True.intro (.ins upd_same ((FsR.put (S := sy T X) nk hn (r1.go s2) hfs hg).mono kp))
              have g4 : Go (sy T X) ρ2 H2 ρ2 (upd H2 p (.ins (T.ca c) dx (putF (T.nm n) yv vs))) := .put ep hi True.intro
              obtain ⟨ρ5, d5, h5, s5, R5, r5, E5, a5⟩ := a2 ρ2 .non _ g4 R4 .non
              rw [← hf]
              exact a5 ρ5 σ _ .rfl R5 E5
          · exact a2.elim
        · exact a2.elim
      · exact a2.elim
    · exact a2.elim
end
end Lad
end
section
set_option maxRecDepth 100000
set_option maxHeartbeats 2000000
namespace Lad
open PySem L2
open PySem.W (Frag)
section
variable {X : Cx} {CX : CXT} {k : Nat} {f C : Addr} {fd : FuncData} {ps : List Str} {sp : Sp} {E : St → XK} {x m : Str} {p pos apos : Pos} {e o : Expr} {es : List Expr} {ta : TE} {t : TA}
def tMtS (C : Addr) (m : Str) (sp : Sp) (E : St → XK) (ta : TE) (t : TA) : TE := fun σ H Q => ta σ H fun x H1 => ∃ a dx fs, x = .ref a ∧ H1 a = some (.ins C dx fs) ∧ fs.lookup m = none ∧ t σ H1 fun vs H2 => sp (x :: vs) H2 Q (E σ)
theorem pe_mtS {pl : Sem Bool} (he : PE X o ta) (c : Cls X.K C) (hm : Meth X.K C m f) (F : FnOk X.prog X.w X.K X.mg X.base CX k f fd ps sp) (hr : Room k X.A) (hb : Binds X.K fd ps []) (hx : ∀ σ, PassesAt CX X σ (E σ)) (ha : PA X (e :: es) t)
    (hst : starEach (e :: es) X.env = (false, eval e X.env) :: starEach es X.env := by rfl) (hpl : (backTo pos (starEach es X.env)).any (·.1) = false := by rfl)
    (ht : eval (.Call (.Attribute o m apos) (e :: es) [] pos) X.env = (do
      let ov ← eval o X.env
      standAt apos.atName
      let (f, first) ← holding [ov] (getMethod ov m pl)
      callWith pos f first (backTo pos (starEach (e :: es) X.env)) (backToKw pos (keywordEach [] X.env))) := by rfl) : PE X (.Call (.Attribute o m apos) (e :: es) [] pos) (tMtS C m sp E ta t) := by
  refine ⟨?_⟩
  intro pins s σ H Q I hw
  have recv := he.run pins s σ H _ I hw
  refine PySem.W.methodCall_KW (pl := pl) (thn recv ?_) ht
  rintro u s1 ⟨x, H1, I1, rx, a, dx, fs, rfl, ea, nof, w1⟩
  have eu : u = Value.ref a := rx
  subst eu
  apply getmeth_ok I1 ea c hm nof
  have given := ha.run pos pins s1 σ H1 _ I1 w1
  refine PySem.W.callWith_K (first := [.ref a]) (h₀ := X.base) I.ok.mod.kin hm.kp (thn given ?_) hst hpl
  rintro us s2 ⟨vs, H2, I2, rs, w2⟩
  exact ⟨I2.kIn, run_fnS (us := .ref a :: us) (vs := .ref a :: vs) F hr hb (hx σ) I2 (.cons rfl rs) w2⟩
theorem pe_mtS0 {pl : Sem Bool} (he : PE X o ta) (c : Cls X.K C) (hm : Meth X.K C m f) (F : FnOk X.prog X.w X.K X.mg X.base CX k f fd ps sp) (hr : Room k X.A) (hb : Binds X.K fd ps []) (hx : ∀ σ, PassesAt CX X σ (E σ))
    (ht : eval (.Call (.Attribute o m apos) [] [] pos) X.env = (do
      let ov ← eval o X.env
      standAt apos.atName
      let (f, first) ← holding [ov] (getMethod ov m pl)
      callWith pos f first (backTo pos (starEach [] X.env)) (backToKw pos (keywordEach [] X.env))) := by rfl) : PE X (.Call (.Attribute o m apos) [] [] pos) (tMtS C m sp E ta tNil) := by
  refine ⟨?_⟩
  intro pins s σ H Q I hw
  have recv := he.run pins s σ H _ I hw
  refine PySem.W.methodCall_KW (pl := pl) (thn recv ?_) ht
  rintro u s1 ⟨x, H1, I1, rx, a, dx, fs, rfl, ea, nof, w1⟩
  have eu : u = Value.ref a := rx
  subst eu
  apply getmeth_ok I1 ea c hm nof
  exact PySem.W.callWith_K0 (first := [.ref a]) I1.kIn hm.kp (run_fnS (us := [.ref a]) (vs := [.ref a]) F hr hb (hx σ) I1 (.cons rfl .nil) w1)
/-- a new instance, its __init__ run -/
theorem run_mkS {pins : List (Addr × Obj)} {σ : St} {H : Hp} {s : Shared} {Q : VK} {us : List Value} {vs : List V} (M : Mk X.K C f) (F : FnOk X.prog X.w X.K X.mg X.base CX k f fd ps sp) (hr : Room (k + 1) X.A) (hb : Binds X.K fd ps []) (hx : PassesAt CX X σ (E σ)) (I : Inv X pins σ H s) (r : Vals vs us)
    (w : ∀ x dx, H x = none → H dx = none → dx ≠ x → sp (.ref x :: vs) (upd (upd H dx (.own x)) x (.ins C dx [])) (fun v H2 => v = .non ∧ Q (.ref x) H2) (E σ)) :
    wpAny (model X.prog X.w) X.A (call (.ref C) us) (EP X pins σ Q) X.xe s := by
  have at0 := I.hok.fresh (Nat.le_refl s.heap.objs.size)
  have at1 := I.hok.fresh (Nat.le_succ s.heap.objs.size)
  have w1 := w (s.heap.objs.size + 1) s.heap.objs.size at1 at0 (Nat.ne_of_lt (Nat.lt_succ_self _))
  have J := Inv.made (C := C) I
  have rs : Vals (V.ref (s.heap.objs.size + 1) :: vs) (Value.ref (s.heap.objs.size + 1) :: us) := .cons rfl r
  have len : (Value.ref (s.heap.objs.size + 1) :: us).length = ps.length := by
    rw [← rs.length]
    exact F.len _ _ _ _ w1
  have bind := hb _ (Value.ref (s.heap.objs.size + 1) :: us) J.kIn (by rw [List.append_nil]; exact len)
  rw [List.append_nil] at bind
  have body := F.run _ X.stack _ _ ⟨Value.ref (s.heap.objs.size + 1) :: us, []⟩ (Value.ref (s.heap.objs.size + 1) :: us) _ _ (E σ) (hr.make C us []) (J.env0.make C us []) bind rs w1
  apply wpAny_call
  refine make_map (f := f) I.kIn M.makes M.init (beq_iff_eq.mp M.fn) (codeAny_mono body ?_)
  intro res s' back
  match res, back with
  | .error er, back => exact hx pins _ _ er s' J back
  | .ok (.ret u), back =>
    obtain ⟨v, H', I3, rv, ev, w3⟩ := J.after back
    subst ev
    exact ⟨rv, V.ref (s.heap.objs.size + 1), H', I3, rfl, w3⟩
  | .ok .next, back => exact False.elim back
  | .ok .brk, back => exact False.elim back
  | .ok .cont, back => exact False.elim back
def tMkS (C : Addr) (sp : Sp) (E : St → XK) (t : TA) : TE := fun σ H Q => t σ H fun vs H1 => ∀ x dx, H1 x = none → H1 dx = none → dx ≠ x → sp (.ref x :: vs) (upd (upd H1 dx (.own x)) x (.ins C dx [])) (fun v H2 => v = .non ∧ Q (.ref x) H2) (E σ)
theorem pe_mkS (M : Mk X.K C f) (F : FnOk X.prog X.w X.K X.mg X.base CX k f fd ps sp) (hr : Room (k + 1) X.A) (hg : Gl X x) (hm : X.mg x = some (.ref C)) (hb : Binds X.K fd ps []) (hx : ∀ σ, PassesAt CX X σ (E σ)) (ha : PA X (e :: es) t)
    (hdb : (x == ("__debug__" : Str)) = false := by decide) (he : starEach (e :: es) X.env = (false, eval e X.env) :: starEach es X.env := by rfl) (hpl : (backTo pos (starEach es X.env)).any (·.1) = false := by rfl) :
    PE X (.Call (.Name x p) (e :: es) [] pos) (tMkS C sp E t) := by
  refine ⟨?_⟩
  intro pins s σ H Q I hw
  apply wpAny_Call_Name_kw
  refine ld_glob I hg hm ?_ hdb
  have given := ha.run pos pins s σ H _ I hw
  refine PySem.W.callWith_K (h₀ := X.base) I.ok.mod.kin M.kp (thn given ?_) he hpl
  rintro us s1 ⟨vs, H1, I1, rs, w1⟩
  exact ⟨I1.kIn, run_mkS M F hr hb (hx σ) I1 rs w1⟩
end
def eMeth (c n : Nat) (cf : List Val → Hea → Res Val) (f : En → Hea → Res Val) (g : En → Hea → Res (List Val)) : En → Hea → Res Val := fun e h => (f e h).bind fun o h1 => match insOf h1 o with
  | some (c', fs) => if c' = c ∧ noF fs n = true then (g e h1).bind fun ds h2 => cf (o :: ds) h2 else .stuck
  | none => .stuck
/-- __init__'s end: None; fn: what becomes of the new thing -/
def mkEnd (fn : Hea → Val → Hea → Res Val) (h0 : Hea) (r : Res Val) : Res Val := match r with
  | .ok .non h => fn h0 (.ref h0.length) h
  | .ok _ _ => .stuck
  | .exc c d h => .exc c d h
  | .stuck => .stuck
def eMakeG (fn : Hea → Val → Hea → Res Val) (c : Nat) (cf : List Val → Hea → Res Val) (g : En → Hea → Res (List Val)) : En → Hea → Res Val := fun e h => (g e h).bind fun ds h1 => mkEnd fn h1 (cf (.ref h1.length :: ds) (h1 ++ [.ins c []]))
section
variable {T : Tb} {X : Cx} {W : WX} {x m : Str} {f : Addr} {fd : FuncData} {ps : List Str} {k c n : Nat} {cf : List Val → Hea → Res Val} {e o : Expr} {es : List Expr} {fo : En → Hea → Res Val} {g : En → Hea → Res (List Val)} {p apos pos : Pos}
theorem meth_imp (nk : NmOk T) (hn : n < 100) (hm : T.nm n = m) {σ : St} {H : Hp} {Q : VK} (q : tE (sy T X) W (eMeth c n cf fo g) σ H Q) : tMtS (T.ca c) m (spEv (sy T X) cf) (WE W) (tE (sy T X) W fo) (tA (sy T X) W g) σ H Q := by
  obtain ⟨ρ, e, h, R, E, a⟩ := q
  unfold eMeth at a
  refine ⟨ρ, e, h, R, E, a.bind.mono fun ov H1 ⟨ρ1, od, h1, s, R1, r1, a1⟩ => ?_⟩
  split at a1
  · rename_i c' fs hx
    obtain ⟨p, dx, vs, rfl, hi, hfs⟩ := ins_of R1 r1 hx
    split at a1
    · rename_i hc
      obtain ⟨rfl, hno⟩ := hc
      refine ⟨p, dx, vs, rfl, hi, by rw [← hm]; exact FsR.lookNo (S := sy T X) nk hn hfs hno, ρ1, e, h1, R1, E.go s, (AftA.bind a1).mono fun us H2 ⟨ρ2, ds, h2, s2, R2, r2, a2⟩ => ?_⟩
      exact ⟨ρ2, h2, _, R2, .cons (r1.go s2) r2, a2⟩
    · exact a1.elim
  · exact a1.elim
theorem se_meth (nk : NmOk T) (hn : n < 100) (hnm : T.nm n = m) (C : Cls X.K (T.ca c)) (hm : Meth X.K (T.ca c) m f) (F : FnOk X.prog X.w X.K X.mg X.base (L2.CX X.prog X.w) k f fd ps (spEv (sy T X) cf)) (hr : Room k X.A) (hb : Binds X.K fd ps []) (tk : Takes X W)
    (ho : SE T X W o fo) (ha : SA T X W (e :: es) g) {pl : Sem Bool} (hst : starEach (e :: es) X.env = (false, eval e X.env) :: starEach es X.env := by rfl) (hpl : (backTo pos (starEach es X.env)).any (·.1) = false := by rfl)
    (ht : eval (.Call (.Attribute o m apos) (e :: es) [] pos) X.env = (do
      let ov ← eval o X.env
      standAt apos.atName
      let (f, first) ← holding [ov] (getMethod ov m pl)
      callWith pos f first (backTo pos (starEach (e :: es) X.env)) (backToKw pos (keywordEach [] X.env))) := by rfl) : SE T X W (.Call (.Attribute o m apos) (e :: es) [] pos) (eMeth c n cf fo g) :=
  (pe_mtS (E := WE W) ho C hm F hr hb (fun σ => passAt tk σ) ha hst hpl ht).imp fun σ H Q q => meth_imp nk hn hnm q
theorem se_meth0 (nk : NmOk T) (hn : n < 100) (hnm : T.nm n = m) (C : Cls X.K (T.ca c)) (hm : Meth X.K (T.ca c) m f) (F : FnOk X.prog X.w X.K X.mg X.base (L2.CX X.prog X.w) k f fd ps (spEv (sy T X) cf)) (hr : Room k X.A) (hb : Binds X.K fd ps []) (tk : Takes X W)
    (ho : SE T X W o fo) {pl : Sem Bool}
    (ht : eval (.Call (.Attribute o m apos) [] [] pos) X.env = (do
      let ov ← eval o X.env
      standAt apos.atName
      let (f, first) ← holding [ov] (getMethod ov m pl)
      callWith pos f first (backTo pos (starEach [] X.env)) (backToKw pos (keywordEach [] X.env))) := by rfl) : SE T X W (.Call (.Attribute o m apos) [] [] pos) (eMeth c n cf fo aNil) :=
  (pe_mtS0 (E := WE W) ho C hm F hr hb (fun σ => passAt tk σ) ht).imp fun σ H Q q => by
    obtain ⟨ρ, e, h, R, E, a⟩ := q
    unfold eMeth at a
    refine ⟨ρ, e, h, R, E, a.bind.mono fun ov H1 ⟨ρ1, od, h1, s, R1, r1, a1⟩ => ?_⟩
    split at a1
    · rename_i c' fs hx
      obtain ⟨p, dx, vs, rfl, hi, hfs⟩ := ins_of R1 r1 hx
      split at a1
      · rename_i hc
        obtain ⟨rfl, hno⟩ := hc
        exact ⟨p, dx, vs, rfl, hi, by rw [← hnm]; exact FsR.lookNo (S := sy T X) nk hn hfs hno, ρ1, h1, _, R1, .cons r1 .nil, a1⟩
      · exact a1.elim
    · exact a1.elim
theorem mkEnd_aft {S : Sy} {fn : Hea → Val → Hea → Res Val} (fo : FinOk fn) {ρ0 ρ : Own} {H0 H : Hp} {h0 : Hea} {r : Res Val} {Q : VK} {W : XK} {x : Addr} (R0 : Rel S ρ0 h0 H0) (g : Go S ρ0 H0 ρ H) (ex : ρ.nm[h0.length]? = some x) (a : Aft S ρ0 H0 (mkEnd fn h0 r) Q W) : Aft S ρ H r (fun v H2 => v = .non ∧ Q (.ref x) H2) W := by
  unfold mkEnd at a
  split at a
  · intro ρ1 v H1 s R1 r1
    cases r1
    exact ⟨rfl, fo _ _ _ _ _ _ _ _ R0 a ρ1 (.ref x) H1 (g.trans s) R1 (.ref (s.sub _ _ ex))⟩
  · exact a.elim
  · exact fun ρ1 v H1 dx s => a ρ1 v H1 dx (g.trans s)
  · exact a
theorem se_make {fn : Hea → Val → Hea → Res Val} (fo : FinOk fn) (hm : X.mg x = some (.ref (T.ca c))) (M : Mk X.K (T.ca c) f) (F : FnOk X.prog X.w X.K X.mg X.base (L2.CX X.prog X.w) k f fd ps (spEv (sy T X) cf)) (hr : Room (k + 1) X.A) (hb : Binds X.K fd ps []) (tk : Takes X W) (ha : SA T X W (e :: es) g) (hg : Gl X x := by rfl)
    (hdb : (x == ("__debug__" : Str)) = false := by decide) (he : starEach (e :: es) X.env = (false, eval e X.env) :: starEach es X.env := by rfl) (hpl : (backTo pos (starEach es X.env)).any (·.1) = false := by rfl) : SE T X W (.Call (.Name x p) (e :: es) [] pos) (eMakeG fn c cf g) :=
  (pe_mkS (E := WE W) M F hr hg hm hb (fun σ => passAt tk σ) ha hdb he hpl).imp fun σ H Q q => by
    obtain ⟨ρ, e, h, R, E, a⟩ := q
    unfold eMakeG at a
    refine ⟨ρ, e, h, R, E, (AftA.bind a).mono fun us H1 ⟨ρ1, ds, h1, s, R1, r1, a1⟩ => ?_⟩
    intro y dx ny ndx hne
    have g1 : Go (sy T X) ρ1 H1 ρ1 (upd H1 dx (.own y)) := .side ndx
    have R2 : Rel (sy T X) ρ1 h1 (upd H1 dx (.own y)) := R1.side ndx
    have ny2 : upd H1 dx (.own y) y = none := by rw [upd_ne (Ne.symm hne)]; exact ny
    have g2 : Go (sy T X) ρ1 (upd H1 dx (.own y)) (ρ1.add y) (upd (upd H1 dx (.own y)) y (.ins (T.ca c) dx [])) := .new ny2
    have R3 : Rel (sy T X) (ρ1.add y) (h1 ++ [.ins c []]) (upd (upd H1 dx (.own y)) y (.ins (T.ca c) dx [])) := R2.new ny2 (.ins upd_same .nil)
    have ey : (ρ1.add y).nm[h1.length]? = some y := by rw [R1.len]; exact add_at
    exact ⟨ρ1.add y, h1 ++ [.ins c []], .ref h1.length :: ds, R3, .cons (.ref ey) (r1.go (g1.trans g2)), mkEnd_aft fo R1 (g1.trans g2) ey a1⟩
end
end Lad
end
section
set_option maxRecDepth 100000
set_option maxHeartbeats 2000000
namespace Lad
open PySem
open L2 PySem.Spec PyProof.Rows
end Lad
end
section
set_option maxRecDepth 100000
set_option maxHeartbeats 2000000
namespace Lad
open PySem L2
def undE (n : Nat) : En → Bool
  | [] => true
  | none :: e => undE n e
  | some d :: e => d.und n && undE n e
def wipeAll (e : En) : List Nat → En
  | [] => e
  | i :: is => wipeAll (e.set i none) is
/-- the names of dead are forgotten; where nothing held is younger than n, the heap is cut at n -/
def gcN (dead : List Nat) (n : Nat) (e : En) (h : Hea) : En × Hea := match wipeAll e dead with
  | e1 => match (if undE n e1 = true then shut n n h else none) with
    | some g => (e1, g)
    | none => (e1, h)
def forK (gc : En → Hea → En × Hea) (it : Nat → Hea → Option (Option Val)) (b : Val → En → Option En) (body : En → Hea → SRes) : Nat → Nat → En → Hea → SRes
  | 0, _, _, _ => .stuck
  | n + 1, k, e, h => match it k h with
    | some none => .nx e h
    | some (some v) => match b v e with
      | some e1 => match body e1 h with
        | .nx e2 h2 => match gc e2 h2 with | (e3, h3) => forK gc it b body n (k + 1) e3 h3
        | .ct e2 h2 => match gc e2 h2 with | (e3, h3) => forK gc it b body n (k + 1) e3 h3
        | .bk e2 h2 => .nx e2 h2
        | r => r
      | none => .stuck
    | none => .stuck
def forKL (gc : En → Hea → En × Hea) (b : Val → En → Option En) (body : En → Hea → SRes) : List Val → En → Hea → SRes
  | [], e, h => .nx e h
  | v :: vs, e, h => match b v e with
    | some e1 => match body e1 h with
      | .nx e2 h2 => match gc e2 h2 with | (e3, h3) => forKL gc b body vs e3 h3
      | .ct e2 h2 => match gc e2 h2 with | (e3, h3) => forKL gc b body vs e3 h3
      | .bk e2 h2 => .nx e2 h2
      | r => r
    | none => .stuck
theorem forK_fix (gc : En → Hea → En × Hea) (b : Val → En → Option En) (body : En → Hea → SRes) (xs : List Val) : ∀ (m k : Nat) (e : En) (h : Hea), k + m = xs.length + 1 → 0 < m → forK gc (srcFix xs).item b body m k e h = forKL gc b body (xs.drop k) e h := by
  intro m
  induction m with
  | zero => intro k e h hm h0; omega
  | succ m ih =>
    intro k e h hm _
    unfold forK
    rw [fix_item xs (by omega)]
    by_cases hk : k < xs.length
    · rw [List.getElem?_eq_getElem hk, List.drop_eq_getElem_cons hk]
      unfold forKL
      dsimp only
      cases b xs[k] e with
      | none => rfl
      | some e1 =>
        dsimp only
        cases body e1 h with
        | nx e2 h2 => cases gc e2 h2; exact ih (k + 1) _ _ (by omega) (by omega)
        | ct e2 h2 => cases gc e2 h2; exact ih (k + 1) _ _ (by omega) (by omega)
        | _ => rfl
    · rw [List.getElem?_eq_none_iff.mpr (by omega), List.drop_eq_nil_of_le (by omega)]
      rfl
def runForK (gc : En → Hea → En × Hea) (s : Src) (b : Val → En → Option En) (body : En → Hea → SRes) (e : En) (h : Hea) : SRes := match s.fix with
  | some xs => forKL gc b body xs e h
  | none => forK gc s.item b body s.fuel 0 e h
theorem runForK_eq {gc : En → Hea → En × Hea} {s : Src} {b : Val → En → Option En} {body : En → Hea → SRes} {e : En} {h : Hea} : runForK gc s b body e h = forK gc s.item b body s.fuel 0 e h := by
  unfold runForK
  cases hf : s.fix with
  | none => rfl
  | some xs =>
    obtain ⟨e1, e2⟩ := s.ok xs hf
    rw [e1, e2]
    exact (forK_fix gc b body xs (xs.length + 1) 0 e h (by omega) (by omega)).symm
def sForK (dead : List Nat) (src : En → Hea → Res Src) (b : Val → En → Option En) (body : En → Hea → SRes) : En → Hea → SRes := fun e h => ofR (src e h) e fun s h1 => runForK (gcN dead h1.length) s b body e h1
section
variable {S : Sy} {H : Hp} {ρ : Own}
theorem ER.wipeAll : ∀ (is : List Nat) {e : En} {σ : St}, ER S ρ H e σ → ER S ρ H (Lad.wipeAll e is) σ
  | [], _, _, r => r
  | i :: is, _, _, r => ER.wipeAll is (r.weak i)
theorem ER.cut {ρ' : Own} (s : Less ρ ρ') : ∀ {e : En} {σ : St}, undE ρ.nm.length e = true → ER S ρ' H e σ → ER S ρ H e σ
  | _, _, _, .nil => .nil
  | none :: _, _, h, .cons r t => .cons (fun x e => nomatch e) (ER.cut s h t)
  | some d :: _, _, h, .cons r t => by
    simp only [undE, Bool.and_eq_true] at h
    refine .cons (fun x e => ?_) (ER.cut s h.2 t)
    obtain ⟨v, e1, e2⟩ := r x e
    cases e
    exact ⟨v, e1, e2.cut s h.1⟩
theorem gc_ok {ρ1 ρ4 : Own} {H1 H4 : Hp} {h1 h4 : Hea} {e4 : En} {σ4 : St} {dead : List Nat} (R1 : Rel S ρ1 h1 H1) (g : Go S ρ1 H1 ρ4 H4) (R4 : Rel S ρ4 h4 H4) (E4 : ER S ρ4 H4 e4 σ4) :
    ∃ ρ5, Go S ρ1 H1 ρ5 H4 ∧ Rel S ρ5 (gcN dead h1.length e4 h4).2 H4 ∧ ER S ρ5 H4 (gcN dead h1.length e4 h4).1 σ4 := by
  have E5 := ER.wipeAll dead E4
  have hl := R1.len
  unfold gcN
  dsimp only
  split
  · rename_i gg hg
    split at hg
    · rename_i hu
      exact ⟨ρ1, g.drop, R1.cut g.less R4 hg, E5.cut g.less (by rw [← hl]; exact hu)⟩
    · cases hg
  · exact ⟨ρ4, g, R4, E5⟩
end
section
variable {T : Tb} {X : Cx} {W : WX} {tg a : Expr} {src : En → Hea → Res Src} {body : List Stmt} {fb : En → Hea → SRes} {g : TG} {b : Val → En → Option En} {vs : List Nat} {pos : Pos}
theorem st_forK (dead : List Nat) (hp : PassesOwn (model X.prog X.w) X.A X.env X.xe) (hc : X.calm = true) (hi : SI T X W tg a src) (hg : PG X tg g) (ok : GOk (sy T X) vs g b) (hb : SSs T X W body fb) (hs : ∀ x, foldedSetIterable a X.env x = pure x := by intro _; rfl) :
    SSt T X W (.For tg a body [] pos) (sForK dead src b fb) := by
  refine PS.imp (ps_for hp hc hi hg hb hs) fun D σ H q => ?_
  obtain ⟨ρ, e, h, R, E, a⟩ := q
  refine ⟨ρ, e, h, R, E, (a.ofI E).mono fun J H1 ⟨ρ1, d, h1, s, R1, j, E1, a1⟩ => ?_⟩
  have a1 : AftS (sy T X) ρ1 H1 (forK (gcN dead h1.length) d.item b fb d.fuel 0 e h1) D W := by rw [← runForK_eq]; exact a1
  refine ⟨fun k m σ H2 => ∃ ρ2 e2 h2, Go (sy T X) ρ1 H1 ρ2 H2 ∧ Rel (sy T X) ρ2 h2 H2 ∧ ER (sy T X) ρ2 H2 e2 σ ∧ AftS (sy T X) ρ1 H1 (forK (gcN dead h1.length) d.item b fb m k e2 h2) D W, ⟨d.fuel, ρ1, e, h1, .rfl, R1, E1, a1⟩, fun k m σ H2 w => ?_⟩
  obtain ⟨ρ2, e2, h2, g2, R2, E2, a2⟩ := w
  cases m with
  | zero => exact a2.elim
  | succ m =>
    have jk := j ρ2 H2 h2 g2.mv R2 k
    unfold forK at a2
    cases hit : d.item k h2 with
    | none => rw [hit] at a2; exact a2.elim
    | some o =>
      rw [hit] at a2 jk
      cases o with
      | none => exact .inl ⟨jk, a2 ρ2 σ H2 g2 R2 E2⟩
      | some v =>
        refine .inr ⟨jk.1, fun σ' H' => ∃ ρ2 e2 h2, Go (sy T X) ρ1 H1 ρ2 H' ∧ Rel (sy T X) ρ2 h2 H' ∧ ER (sy T X) ρ2 H' e2 σ' ∧ AftS (sy T X) ρ1 H1 (forK (gcN dead h1.length) d.item b fb m (k + 1) e2 h2) D W, fun σ' H' z => ⟨m, Nat.lt_succ_self m, z⟩, fun x H' y => ?_⟩
        obtain ⟨g3, R3, r3⟩ := jk.2 x H' y
        dsimp only at a2
        cases hbv : b v e2 with
        | none => rw [hbv] at a2; exact a2.elim
        | some e3 =>
          rw [hbv] at a2
          refine ok ρ2 H' h2 e2 σ v x e3 _ R3 (E2.go g3) r3 hbv fun σ3 E3 _ => ⟨ρ2, e3, h2, R3, E3, ?_⟩
          have g4 := g2.trans g3
          dsimp only at a2
          revert a2
          cases fb e3 h2 with
          | nx e4 h4 =>
            intro a2 ρ4 σ4 H4 s4 R4 E4
            obtain ⟨ρ5, g5, R5, E5⟩ := gc_ok (dead := dead) R1 (g4.trans s4) R4 E4
            exact ⟨ρ5, _, _, g5, R5, E5, a2⟩
          | ct e4 h4 =>
            intro a2 ρ4 σ4 H4 s4 R4 E4
            obtain ⟨ρ5, g5, R5, E5⟩ := gc_ok (dead := dead) R1 (g4.trans s4) R4 E4
            exact ⟨ρ5, _, _, g5, R5, E5, a2⟩
          | bk e4 h4 => exact fun a2 ρ4 σ4 H4 s4 R4 E4 => a2 ρ4 σ4 H4 (g4.trans s4) R4 E4
          | rt v4 h4 => exact fun a2 => AftS.later (r := .rt v4 h4) a2 g4
          | exc c4 d4 e4 h4 => exact fun a2 => AftS.later (r := .exc c4 d4 e4 h4) a2 g4
          | stuck => exact fun a2 => a2
end
end Lad
end
section
set_option maxRecDepth 100000
set_option maxHeartbeats 2000000
namespace Lad
open PySem L2
def sAug (i : Nat) (o : Int → Int → Int) (f : En → Hea → Res Val) : En → Hea → SRes := fun e h => match e[i]? with
  | some (some (.int x)) => ofR (f e h) e fun d h1 => match d with
    | .int y => .nx (e.set i (some (.int (o x y)))) h1
    | _ => .stuck
  | _ => .stuck
section
variable {T : Tb} {X : Cx} {W : WX} {a : Expr} {f : En → Hea → Res Val} {i : Nat} {x : Str} {op : Operator} {o : Int → Int → Int} {pos pos' : Pos}
theorem st_aug (hN : X.N.Nodup) (hi : X.N[i]? = some x) (hx : Loc X.env.scope x) (ho : PIp X op (ipI o)) (ha : SE T X W a f) (hf : X.fn x = true ∨ X.env.scope.names.lookup x = some .local := by first | exact .inl rfl | exact .inr rfl | assumption) :
    SSt T X W (.AugAssign (.Name x pos') op a pos) (sAug i o f) := (ps_aug hN hi hx ha ho hf).imp fun D σ H q => by
  obtain ⟨ρ, e, h, R, E, a⟩ := q
  unfold sAug at a
  split at a
  · rename_i n hn
    obtain ⟨v, e1, r1⟩ := E.get hn
    obtain rfl := r1.int_
    refine ⟨_, e1, ρ, e, h, R, E, (AftS.ofR a E).mono fun y H1 ⟨ρ1, d, h1, s, R1, r, E1, a1⟩ => ?_⟩
    split at a1
    · obtain rfl := r.int_
      exact ⟨_, _, rfl, rfl, a1 ρ1 _ H1 .rfl R1 (ER.set (.int _) i E1)⟩
    · exact a1.elim
  · exact a.elim
end
end Lad
end
section
set_option maxRecDepth 100000
set_option maxHeartbeats 2000000
namespace Lad
open PySem PySem.Spec PySem.Calls PyProof.Rows L2
open PySem.W (Frag)
theorem inst_of {X : Cx} {pins : List (Addr × Obj)} {σ : L2.St} {H : Hp} {s : Shared} {a C dx : Addr} {fs : List (Str × V)} (I : Inv X pins σ H s) (e : H a = some (.ins C dx fs)) : ∃ od, PySem.W.InstAt s.heap a (PySem.W.instObj C dx) C (some od) := by
  obtain ⟨mA, O, _, _, _, _⟩ := ins_get I.hok e
  obtain ⟨od, h, _⟩ := O.look
  exact ⟨od, h⟩
end Lad
end
section
set_option maxRecDepth 100000
set_option maxHeartbeats 2000000
namespace Lad
open PySem L2
open PySem.W (Frag)
def fdOf (K : Frag) (f : Addr) : FuncData := match K.lookup f with
  | some ⟨_, _, .func fd, _⟩ => fd
  | _ => PySem.W.fnOf "" "" ⟨[], [], none, [], [], none, []⟩ [] ⟨.function, [], false, false, []⟩ .none .none .none .none none .none .none
/-- an own error class with an __init__ of the known shape -/
structure ErD where
  cls : Str
  st : Stmt
  qual : Str
  fld : Str
def erI (K : Frag) (d : ErD) : Addr := He.ma K (He.ga K d.cls) "__init__"
def erW (K : Frag) (d : ErD) : He.FnW := match K.lookup (erI K d) with
  | some ⟨_, _, .func fd, _⟩ => some (fd.name, fd.qualname, fd.params, fd.body, fd.scope, fd.globals, fd.closure.map (fun p => (p.1, 0)), fd.builtins)
  | _ => none
def ErD.val (d : ErD) : He.FnW := some ("__init__", d.qual, defArgs d.st, .stmts (defBody d.st), defScope d.st, mainGlobals, [("__class__", 0)], builtinsNs)
def erCda (K : Frag) (d : ErD) : Addr := match K.lookup (erI K d) with
  | some ⟨_, _, .func fd, _⟩ => (match fd.code with | .ref a => a | _ => 0)
  | _ => 0
def erCc (K : Frag) (d : ErD) : Addr := match K.lookup (erI K d) with
  | some ⟨_, _, .func fd, _⟩ => (match fd.closure with | [(_, a)] => a | _ => 0)
  | _ => 0
def noneB : Value → Bool
  | .none => true
  | _ => false
def eqO (a b : Option (Option Value)) : Bool := decide (a = b)
def erB (file : Str) (B newId initId : String) (bmB : List Value) (K : Frag) (d : ErD) : Bool :=
  let C := He.ga K d.cls
  (match K.lookup (erI K d) with
    | some ⟨_, _, .func fd, _⟩ => noneB fd.defaults && (match fd.code, fd.closure with
      | .ref cda, [(_, cc)] => PySem.W.codeIn K (.ref cda) d.qual &&
        ((match K.lookup cda with
          | some ⟨_, _, .fields vs, _⟩ => (match (vs[2]? : Option Value) with
            | some (.str z _) => file == z
            | _ => false)
          | _ => false) &&
        (match K.lookup cc with
          | some ⟨_, _, .cell (some (.ref D)), _⟩ => decide (D = C)
          | _ => false))
      | _, _ => false)
    | _ => false) &&
  (PySem.W.excInitIn K C bmB newId && (PySem.W.excOver K C bmB && (eqO (PySem.W.findIn K (.ref C) "__setattr__") (some (some (.builtin "object.__setattr__"))) &&
  (eqO (PySem.W.takerIn K C d.fld) (some none) && (eqO (PySem.W.findIn K (.ref C) "__init__") (some (some (.ref (erI K d)))) && (decide (PySem.W.typeIn K (.ref (erI K d)) = some (.type "function")) &&
  (PySem.W.keepIn K (.ref C) && (decide (PySem.W.subIn K (.ref C) (.type "BaseException") = some true) && (decide (PySem.W.subIn K (.ref C) (.type B) = some true) && (decide (PySem.W.typeIn K (.ref C) = some (.type "type")) &&
  (PySem.W.hasDictIn K C && (decide (PySem.W.mroIn K C (.ref C) = some true) && (eqO (PySem.W.nsIn K mainGlobals "super") (some none) && (eqO (PySem.W.nsIn K cStatics "thirdparty.any") (some none) &&
  eqO (PySem.W.ks_superIn K C C "__init__") (some (some (.builtin initId)))))))))))))))))
theorem eqO_ok {a b : Option (Option Value)} (h : eqO a b = true) : a = b := of_decide_eq_true h
theorem noneB_ok {v : Value} (h : noneB v = true) : v = .none := by
  cases v <;> first | rfl | exact absurd h Bool.false_ne_true
theorem ErD.txtM {P : Program} {K : Frag} {d : ErD} {B newId initId : String} {bmB : List Value} (kxs : PySem.W.KxsFacts B initId) (eb : MkFacts newId initId bmB) (sf : PySem.StoreFacts B bmB "object.__setattr__" "object") (ini : InitOk d.st d.fld)
    (hb : ∀ (kV doc pm : Value) (an : Option Addr) (cdv ct : Value) (cc : Addr) (u v : Value), bindArgs (PySem.W.ksFn "__init__" d.qual (defArgs d.st) (defBody d.st) (defScope d.st) .none kV doc pm an cdv ct cc) ⟨[u, v], []⟩ = pure ([("self", u), (d.fld, v)] : List (Str × Value)))
    (top : (P.main.scope.names.lookup ("super" : Str)).isSome = false) (e : erW K d = d.val) (c : erB P.main.file B newId initId bmB K d = true) :
    ExTxt P K d.st (He.ga K d.cls) (erI K d) (erCc K d) (erCda K d) (fdOf K (erI K d)) B newId initId bmB d.fld := by
  unfold erB at c
  simp only [Bool.and_eq_true] at c
  obtain ⟨c0, c1, c2, c3, c4, c5, c6, c7, c8, c9, c10, c11, c12, c13, c14, c15⟩ := c
  unfold erW at e
  cases q : K.lookup (erI K d) with
  | none => rw [q] at c0; exact absurd c0 Bool.false_ne_true
  | some o =>
    obtain ⟨oc, od, dt, osl⟩ := o
    rw [q] at c0 e
    cases dt with
    | func fd =>
      obtain ⟨n1, n2, n3, n4, n5, n6, n7, n8, n9, n10, n11, n12, n13, n14, n15⟩ := fd
      have e2 : (some (n1, n2, n3, n4, n5, n6, n7.map (fun p => (p.1, 0)), n15) : He.FnW) = (some ("__init__", d.qual, defArgs d.st, .stmts (defBody d.st), defScope d.st, mainGlobals, [("__class__", 0)], builtinsNs) : He.FnW) := e
      simp only [Option.some.injEq, Prod.mk.injEq] at e2
      obtain ⟨h1, h2, h3, h4, h5, h6, h7, h8⟩ := e2
      subst h1 h2 h3 h4 h5 h6 h8
      dsimp only at c0
      obtain ⟨k1, k2⟩ := Bool.and_eq_true_iff.mp c0
      obtain rfl := noneB_ok k1
      match n7, h7 with
      | [(nm, cc)], h7 =>
        have e7 : nm = "__class__" := by
          have h8 : ((nm, 0) : Str × Addr) = ((("__class__" : Str), 0) : Str × Addr) := (List.cons.inj h7).1
          exact (Prod.mk.inj h8).1
        subst e7
        cases n13 with
        | ref cda =>
          dsimp only at k2
          obtain ⟨k2, k34⟩ := Bool.and_eq_true_iff.mp k2
          obtain ⟨k3, k4⟩ := Bool.and_eq_true_iff.mp k34
          have efd : fdOf K (erI K d) = PySem.W.ksFn "__init__" d.qual (defArgs d.st) (defBody d.st) (defScope d.st) .none n9 n10 n11 n12 (.ref cda) n14 cc := by unfold fdOf; rw [q]
          have ecd : erCda K d = cda := by unfold erCda; rw [q]
          have ecc : erCc K d = cc := by unfold erCc; rw [q]
          rw [efd, ecd, ecc]
          refine ⟨kxs, eb, sf, ini, c1, c2, eqO_ok c3, eqO_ok c4, eqO_ok c5, of_decide_eq_true c6, c7, of_decide_eq_true c8, of_decide_eq_true c9, of_decide_eq_true c10, c11, of_decide_eq_true c12, eqO_ok c13, eqO_ok c14, eqO_ok c15,
            ⟨_, _, _, _, _, _, _, _, _, _, rfl, q, k2⟩, fun s x v => BindsTo.of_eq (hb _ _ _ _ _ _ _ _ _), ?_, ?_, top⟩
          · split at k3
            · rename_i lk
              split at k3
              · rename_i hv
                exact ⟨_, _, _, _, _, _, lk, hv, k3⟩
              · exact absurd k3 Bool.false_ne_true
            · exact absurd k3 Bool.false_ne_true
          · split at k4
            · rename_i lk
              obtain rfl := of_decide_eq_true k4
              exact ⟨_, _, _, lk⟩
            · exact absurd k4 Bool.false_ne_true
        | _ => exact absurd k2 Bool.false_ne_true
    | _ => exact absurd c0 Bool.false_ne_true
/-- a caught error's class: attributes, isinstance -/
theorem ErD.txt {P : Program} {K : Frag} {d : ErD} {B newId initId : String} {bmB : List Value} (kxs : PySem.W.KxsFacts B initId) (eb : PySem.ExcBaseFacts B newId initId bmB) (sf : PySem.StoreFacts B bmB "object.__setattr__" "object") (ini : InitOk d.st d.fld)
    (hb : ∀ (kV doc pm : Value) (an : Option Addr) (cdv ct : Value) (cc : Addr) (u v : Value), bindArgs (PySem.W.ksFn "__init__" d.qual (defArgs d.st) (defBody d.st) (defScope d.st) .none kV doc pm an cdv ct cc) ⟨[u, v], []⟩ = pure ([("self", u), (d.fld, v)] : List (Str × Value)))
    (top : (P.main.scope.names.lookup ("super" : Str)).isSome = false) (e : erW K d = d.val) (c : erB P.main.file B newId initId bmB K d = true) :
    ExTxt P K d.st (He.ga K d.cls) (erI K d) (erCc K d) (erCda K d) (fdOf K (erI K d)) B newId initId bmB d.fld := ErD.txtM kxs (.of eb) sf ini hb top e c
def excB (K : Frag) (C : Addr) : Bool := xfB K C && (eqO (PySem.W.findIn K (.ref C) "__class__") (some (some (.builtin "object.__class__"))) && (eqO (PySem.W.specialIn K (.builtin "object.__class__") "__get__") (some (some (.builtin "getset_descriptor.__get__"))) &&
  (decide (PySem.W.takesIn K (.builtin "object.__class__") = some true) && decide (PySem.W.mroIn K C (.type "object") = some true))))
theorem excB_ok {K : Frag} {C : Addr} (h : excB K C = true) : XfC K C ∧ ExcC K C := by
  unfold excB at h
  simp only [Bool.and_eq_true] at h
  obtain ⟨h0, h1, h2, h3, h4⟩ := h
  have x := xfB_ok h0
  exact ⟨x, ⟨x.ga, x.gg, x.exC, x.hdC, eqO_ok h1, eqO_ok h2, of_decide_eq_true h3, of_decide_eq_true h4⟩⟩
theorem fun_of {K : Frag} {d : He.DefD} {x qual : Str} {st : Stmt} (hd : d = ⟨d.at_, x, qual, defArgs st, defBody st, defScope st, [], []⟩) (e : He.fnW K d.at_ = d.val) (c : d.ok K = true) : Fun K x qual st (He.fAd K d.at_) (fdOf K (He.fAd K d.at_)) := by
  obtain ⟨fd, F⟩ := He.DefD.funD e c
  obtain ⟨oc, od, dV, kV, doc, pm, an, cdv, ct, osl, rfl, lk, hcd, hdf, _⟩ := F.ex
  have dn : dV = .none := by
    rcases hdf with ⟨_, h⟩ | ⟨h, _⟩
    · exact h
    · rw [hd] at h
      exact absurd rfl h
  subst dn
  have ef : fdOf K (He.fAd K d.at_) = PySem.W.fnOf d.name d.qual d.params d.body d.scope .none kV doc pm an cdv ct := by unfold fdOf; rw [lk]
  rw [ef]
  obtain ⟨at_, _, _, _, _, _, _, _⟩ := d
  cases hd
  exact ⟨⟨oc, od, kV, doc, pm, an, cdv, ct, osl, rfl, lk, hcd⟩, F.kp⟩
abbrev Chk : Type := Frag → Bool
abbrev AlL : Type := Bool × List He.FnW × List He.FnW
def startA : List Addr := [mainGlobals, cStatics]
def asL (g : Addr → Option Obj) : Nat → List Addr
  | 0 => startA
  | n + 1 => He.growD g (asL g n)
def obsL (fa : List Chk) (fn : List He.DefD) (er : List ErD) (K : Frag) : AlL := ((fa.all fun f => f K) && fn.all fun d => d.ok K, fn.map fun d => He.fnW K d.at_, er.map fun d => erW K d)
def valL (fn : List He.DefD) (er : List ErD) : AlL := (true, fn.map He.DefD.val, er.map ErD.val)
def SaysL (fa : List Chk) (fn : List He.DefD) (er : List ErD) (K : Frag) : Prop := obsL fa fn er K = valL fn er
def obsLG (n : Nat) (fa : List Chk) (fn : List He.DefD) (er : List ErD) (g : Addr → Option Obj) : AlL := obsL fa fn er (He.frG g (asL g n))
def hookL (n : Nat) (fa : List Chk) (fn : List He.DefD) (er : List ErD) : PySem.W.Hook where
  α := AlL
  obs := fun s => obsLG n fa fn er s.heap.get?
  val := fun _ => valL fn er
  says := fun _ h => ∃ K : Frag, K.In h ∧ SaysL fa fn er K
  of := fun _ _ e => ⟨_, He.frG_in, e⟩
  keeps := fun _ _ _ ⟨K, hK, c⟩ k => ⟨K, PySem.W.Frag.In.keeps hK k, c⟩
theorem obsLG_eq {n : Nat} {fa : List Chk} {fn : List He.DefD} {er : List ErD} {g : Addr → Option Obj} {s : Shared} (h : ∀ a, g a = s.heap.get? a) : obsLG n fa fn er g = (hookL n fa fn er).obs s := by
  have e : g = s.heap.get? := funext h
  rw [e] <;> rfl
section
variable {fa : List Chk} {fn : List He.DefD} {er : List ErD} {K : Frag}
theorem SaysL.fact (c : SaysL fa fn er K) (i : Nat) {f : Chk} (h : fa[i]? = some f := by rfl) : f K = true := by
  have c1 := (Bool.and_eq_true_iff.mp (show ((fa.all fun f => f K) && fn.all fun d => d.ok K) = true from congrArg (fun z : AlL => z.1) c)).1
  exact List.all_eq_true.mp c1 f (List.mem_of_getElem? h)
theorem SaysL.fn_ (c : SaysL fa fn er K) (i : Nat) {d : He.DefD} (h : fn[i]? = some d) : He.fnW K d.at_ = d.val ∧ d.ok K = true := by
  have c2 := (Bool.and_eq_true_iff.mp (show ((fa.all fun f => f K) && fn.all fun d => d.ok K) = true from congrArg (fun z : AlL => z.1) c)).2
  have e : fn.map (fun d => He.fnW K d.at_) = fn.map He.DefD.val := congrArg (fun z : AlL => z.2.1) c
  have e2 : (fn.map fun d => He.fnW K d.at_)[i]? = (fn.map He.DefD.val)[i]? := by rw [e]
  rw [List.getElem?_map, List.getElem?_map, h] at e2
  exact ⟨Option.some.inj e2, List.all_eq_true.mp c2 d (List.mem_of_getElem? h)⟩
theorem SaysL.er_ (c : SaysL fa fn er K) (i : Nat) {d : ErD} (h : er[i]? = some d) : erW K d = d.val := by
  have e : er.map (fun d => erW K d) = er.map ErD.val := congrArg (fun z : AlL => z.2.2) c
  have e2 : (er.map fun d => erW K d)[i]? = (er.map ErD.val)[i]? := by rw [e]
  rw [List.getElem?_map, List.getElem?_map, h] at e2
  exact Option.some.inj e2
end
end Lad
end
section
set_option maxRecDepth 100000
set_option maxHeartbeats 2000000
namespace Lad
open PySem PySem.Spec PySem.Calls PyProof.Rows L2
open PySem.W (Frag)
structure OwnC (K : Frag) (C : Addr) : Prop where
  cl : Cls K C
  ha : PySem.W.findIn K (.ref C) "__class__" = some (some (.builtin "object.__class__"))
  hn : PySem.W.specialIn K (.builtin "object.__class__") "__get__" = some (some (.builtin "getset_descriptor.__get__"))
  ht : PySem.W.takesIn K (.builtin "object.__class__") = some true
  hm : PySem.W.mroIn K C (.type "object") = some true
def ownB (K : Frag) (C : Addr) : Bool := PySem.W.plainGet K C Str.empty && (PySem.W.hasDictIn K C && (PySem.W.plainOver K C && (eqO (PySem.W.findIn K (.ref C) "__setattr__") (some (some (.builtin "object.__setattr__"))) &&
  (eqO (PySem.W.findIn K (.ref C) "__class__") (some (some (.builtin "object.__class__"))) && (eqO (PySem.W.specialIn K (.builtin "object.__class__") "__get__") (some (some (.builtin "getset_descriptor.__get__"))) &&
  (decide (PySem.W.takesIn K (.builtin "object.__class__") = some true) && decide (PySem.W.mroIn K C (.type "object") = some true)))))))
theorem ownB_ok {K : Frag} {C : Addr} (h : ownB K C = true) : OwnC K C := by
  unfold ownB at h
  simp only [Bool.and_eq_true] at h
  obtain ⟨h0, h1, h2, h3, h4, h5, h6, h7⟩ := h
  exact ⟨⟨h0, h1, h2, eqO_ok h3⟩, eqO_ok h4, eqO_ok h5, of_decide_eq_true h6, of_decide_eq_true h7⟩
inductive TY where
  | bt (k : TK) | cl (c : Nat)
def TY.v (S : Sy) : TY → Value
  | .bt k => .type k.nm
  | .cl c => .ref (S.ca c)
structure Dun (K : Frag) (C : Addr) (m : Str) (f : Addr) : Prop where
  at_ : PySem.W.findIn K (.ref C) m = some (some (.ref f))
  fn : PySem.W.isFn K (.ref f) = true
  fi : PySem.W.fnIn K f = true
def dunB (m : Str) (K : Frag) (C : Addr) : Bool := eqO (PySem.W.findIn K (.ref C) m) (some (some (.ref (He.ma K C m)))) && (PySem.W.isFn K (.ref (He.ma K C m)) && PySem.W.fnIn K (He.ma K C m))
theorem dunB_ok {m : Str} {K : Frag} {C : Addr} (h : dunB m K C = true) : Dun K C m (He.ma K C m) := by
  unfold dunB at h
  simp only [Bool.and_eq_true] at h
  exact ⟨eqO_ok h.1, h.2.1, h.2.2⟩
section
variable {X : Cx} {CX : CXT} {k : Nat} {f C : Addr} {fd : FuncData} {ps : List Str} {sp : Sp} {E : L2.St → XK} {pins : List (Addr × Obj)} {σ : L2.St} {H : Hp} {s : Shared}
theorem run_ow {A : Around} {Q : VK} {us : List Value} {vs : List V} (F : FnOk X.prog X.w X.K X.mg X.base CX k f fd ps sp) (hr : Room k A) (e0 : Env0 X.prog X.w X.K X.mg X.base A X.stack s H) (hb : Binds X.K fd ps []) (hx : PassesAt CX X σ (E σ))
    (I : Inv X pins σ H s) (r : Vals vs us) (h : sp vs H Q (E σ)) : wpAny (model X.prog X.w) A (call (.ref f) us) (EP X pins σ Q) X.xe s := by
  have hl : us.length = ps.length := by rw [← r.length]; exact F.len _ _ _ _ h
  have b := hb s us I.kIn (by rw [List.append_nil]; exact hl)
  rw [List.append_nil] at b
  refine wpAny_call (codeAny_mono (F.run A X.stack s H ⟨us, []⟩ us vs Q (E σ) hr e0 b r h) fun r s' hq => ?_)
  cases r with
  | error e => exact hx pins H s e s' I hq
  | ok fl =>
    cases fl with
    | ret u => exact I.after hq
    | next => exact False.elim hq
    | brk => exact False.elim hq
    | cont => exact False.elim hq
end
section
variable {X : Cx} {CX : CXT} {k : Nat} {f C : Addr} {fd : FuncData} {ps : List Str} {sp : Sp} {E : L2.St → XK} {a b : Expr} {ta tb : TE} {pos : Pos}
def tBO (r : L2.St → V → V → Hp → VK → Prop) (ta tb : TE) : TE := fun σ H Q => ta σ H fun x H1 => tb σ H1 fun y H2 => r σ x y H2 Q
def OpS (X : Cx) (op : CmpOp) (r : L2.St → V → V → Hp → VK → Prop) : Prop :=
  ∀ (pins : List (Addr × Obj)) (s : Shared) (σ : L2.St) (H : Hp) (x y : V) (v u : Value) (Q : VK), Inv X pins σ H s → RelV x v → RelV y u → r σ x y H Q → wpAny (model X.prog X.w) X.A (compareOp op v u) (EP X pins σ Q) X.xe s
theorem pt_BO {op : CmpOp} {r : L2.St → V → V → Hp → VK → Prop} (ho : OpS X op r) (h1 : PE X a ta) (h2 : PE X b tb) (hm : behindInMarks op b = false) : PT X (.Compare a [op] [b] pos) (tB (tBO r ta tb)) := by
  refine ⟨fun pins s σ H Q I h => ?_⟩
  refine wpAny_isTrue_Compare1 (thn (h1.run pins s σ H _ I h) fun v s1 ⟨x, H1, I1, r1, q1⟩ => thn (h2.run pins s1 σ H1 _ I1 q1) fun u s2 ⟨y, H2, I2, r2, q2⟩ =>
    thn (ho pins s2 σ H2 x y v u _ I2 r1 r2 q2) fun c s3 ⟨z, H3, I3, r3, k, e, q3⟩ => ?_) hm
  subst e
  cases r3
  exact wpAny_truthy_bool ⟨H3, I3, q3⟩
/-- x in y by an own def of y's class -/
def rInO (C : Addr) (ng : Bool) (sp : Sp) (E : L2.St → XK) : L2.St → V → V → Hp → VK → Prop := fun σ x y H Q => ∃ a dx fs, y = .ref a ∧ H a = some (.ins C dx fs) ∧ sp [y, x] H (fun z H' => ∃ c, z = .bl c ∧ Q (.bl (if ng = true then !c else c)) H') (E σ)
theorem os_notInO (D : Dun X.K C "__contains__" f) (F : FnOk X.prog X.w X.K X.mg X.base CX k f fd ps sp) (hr : Room k X.A) (hb : Binds X.K fd ps []) (hx : ∀ σ, PassesAt CX X σ (E σ)) : OpS X .NotIn (rInO C true sp E) := by
  intro pins s2 σ H2 x y v u Q I2 rx ry q
  obtain ⟨a, dx, fs, rfl, ha, q⟩ := q
  obtain rfl : u = Value.ref a := ry
  obtain ⟨od, J⟩ := inst_of I2 ha
  obtain ⟨m, hF⟩ := I2.fr
  refine PySem.W.notIn_K hF I2.ok.mod.kin J D.at_ D.fn ?_
  refine wpAny_mono (run_ow (us := [.ref a, v]) (vs := [.ref a, x]) F hr I2.env0 hb (hx σ) I2 (.cons rfl (.cons rx .nil)) q) (fun w s' z => ?_) fun _ _ x => x
  obtain ⟨z', H', I', rz, c, rfl, qz⟩ := z
  obtain rfl : w = Value.bool c := rz
  exact wpAny_truthy_bool ⟨.bl (!c), H', I', rfl, qz⟩
/-- len(x) by an own def -/
def rLenO (C : Addr) (sp : Sp) : List V → Hp → VK → Prop := fun xs H Q => ∃ a dx fs, xs = [.ref a] ∧ H a = some (.ins C dx fs) ∧ sp [.ref a] H (fun z H' => ∃ n : Int, z = .int n ∧ 0 ≤ n ∧ n < 2 ^ 63 ∧ Q z H') (fun _ _ _ => False)
theorem call_lenO (D : Dun X.K C "__len__" f) (F : FnOk X.prog X.w X.K X.mg X.base (L2.CX X.prog X.w) k f fd ps sp) (hr : Room (k + 1) X.A) (hb : Binds X.K fd ps []) : CallR X (.builtin "len") (rLenO C sp) := by
  intro pins s σ H xs us Q I r h
  obtain ⟨a, dx, fs, rfl, ha, q⟩ := h
  obtain ⟨u, rfl, ru⟩ := r.one
  obtain rfl : u = Value.ref a := ru
  obtain ⟨od, J⟩ := inst_of I ha
  obtain ⟨m, hF⟩ := I.fr
  refine PySem.W.len_K hF I.ok.mod.kin J D.at_ D.fn (wpAny_mono (run_ow (E := fun _ _ _ _ => False) (us := [.ref a]) (vs := [.ref a]) F hr.in1 I.env0.in1 hb (passAt takes0 σ) I (.cons rfl .nil) q) (fun w s' z => ?_) fun _ _ x => x)
  obtain ⟨z', H', I', rz, n, rfl, h0, h1, qz⟩ := z
  obtain ⟨t, rfl⟩ : ∃ t, w = Value.int n t := rz
  exact ⟨⟨h0, h1⟩, .int n, H', I'.tok _, ⟨_, rfl⟩, qz⟩
end
def blR (ng : Bool) (r : Res Val) : Res Val := r.bind fun z h => match z with
  | .bl b => .ok (.bl (if ng = true then !b else b)) h
  | _ => .stuck
def eInO (c : Nat) (ng : Bool) (cf : List Val → Hea → Res Val) (f1 f2 : En → Hea → Res Val) : En → Hea → Res Val := fun e h => (f1 e h).bind fun x h1 => (f2 e h1).bind fun y h2 => match insOf h2 y with
  | some (c', _) => if c' = c then blR ng (cf [y, x] h2) else .stuck
  | none => .stuck
def eLenO (c : Nat) (cf : List Val → Hea → Res Val) (f1 : En → Hea → Res Val) : En → Hea → Res Val := fun e h => (f1 e h).bind fun x h1 => match insOf h1 x with
  | some (c', _) => if c' = c then (noX (cf [x] h1)).bind fun z h2 => match z with
    | .int n => if 0 ≤ n ∧ n < 9223372036854775808 then .ok (.int n) h2 else .stuck
    | _ => .stuck
    else .stuck
  | none => .stuck
section
variable {T : Tb} {X : Cx} {W : WX} {f : Addr} {fd : FuncData} {ps : List Str} {k c : Nat} {cf : List Val → Hea → Res Val} {a b : Expr} {f1 f2 : En → Hea → Res Val} {pos p : Pos} {okc : Nat → Bool}
/-- the two operands -/
theorem two_imp {r : L2.St → V → V → Hp → VK → Prop} {k : Val → Val → Hea → Res Val} {σ : L2.St} {H : Hp} {Q : VK} (q : tE (sy T X) W (fun e h => (f1 e h).bind fun x h1 => (f2 e h1).bind fun y h2 => k x y h2) σ H Q)
    (w : ∀ ρ h x y H1 u v, Rel (sy T X) ρ h H1 → Rep (sy T X) ρ H1 x u → Rep (sy T X) ρ H1 y v → Aft (sy T X) ρ H1 (k x y h) Q (WE W σ) → r σ u v H1 Q) : tBO r (tE (sy T X) W f1) (tE (sy T X) W f2) σ H Q := by
  obtain ⟨ρ, e, h, R, E, a⟩ := q
  refine ⟨ρ, e, h, R, E, a.bind.mono fun u H1 ⟨ρ1, x, h1, s1, R1, r1, a1⟩ => ⟨ρ1, e, h1, R1, E.go s1, a1.bind.mono fun v H2 ⟨ρ2, y, h2, s2, R2, r2, a2⟩ => ?_⟩⟩
  exact w ρ2 h2 x y H2 u v R2 (r1.go s2) r2 a2
theorem blR_imp {ρ : Own} {H : Hp} {ng : Bool} {r : Res Val} {Q : VK} {W : XK} {S : Sy} (a : Aft S ρ H (blR ng r) Q W) : Aft S ρ H r (fun z H' => ∃ c, z = .bl c ∧ Q (.bl (if ng = true then !c else c)) H') W := by
  unfold blR at a
  refine a.bind.mono fun z H2 ⟨ρ2, d, h2, s2, R2, r3, a2⟩ => ?_
  split at a2
  · obtain rfl := r3.bl_
    exact ⟨_, rfl, a2.same R2 (.bl _)⟩
  · exact a2.elim
theorem notInO_imp  {σ : L2.St} {H : Hp} {Q : VK} (q : tE (sy T X) W (eInO c true cf f1 f2) σ H Q) : tBO (rInO (T.ca c) true (spEv (sy T X) cf) (WE W)) (tE (sy T X) W f1) (tE (sy T X) W f2) σ H Q := two_imp (k := fun x y h2 => match insOf h2 y with
  | some (c', _) => if c' = c then blR true (cf [y, x] h2) else .stuck
  | none => .stuck) q fun ρ h x y H1 u v R r1 r2 a => by
    split at a
    · rename_i c' fs hx
      split at a
      · rename_i hc
        subst hc
        obtain ⟨p, dx, ps, rfl, hi, _⟩ := ins_of R r2 hx
        exact ⟨p, dx, ps, rfl, hi, ρ, h, _, R, .cons r2 (.cons r1 .nil), blR_imp a⟩
      · exact a.elim
    · exact a.elim
theorem st_notInO (D : Dun X.K (T.ca c) "__contains__" f) (F : FnOk X.prog X.w X.K X.mg X.base (L2.CX X.prog X.w) k f fd ps (spEv (sy T X) cf)) (hr : Room k X.A) (hb : Binds X.K fd ps []) (tk : Takes X W)
    (h1 : SE T X W a f1) (h2 : SE T X W b f2) (hm : behindInMarks .NotIn b = false) : ST T X W (.Compare a [.NotIn] [b] pos) (eInO c true cf f1 f2) :=
  (pt_BO (os_notInO (E := WE W) D F hr hb (fun σ => passAt tk σ)) h1 h2 hm).imp fun σ H Q q => notInO_imp  q
theorem Aft.noX' {S : Sy} {ρ : Own} {H : Hp} {r : Res Val} {k : Val → Hea → Res Val} {Q : VK} {W : XK} (a : Aft S ρ H ((Lad.noX r).bind k) Q W) : ∃ d h1, r = .ok d h1 ∧ Aft S ρ H (k d h1) Q W := by
  cases r with
  | ok d h => exact ⟨d, h, rfl, a⟩
  | exc c d h => exact a.elim
  | stuck => exact a.elim
theorem se_lenO (D : Dun X.K (T.ca c) "__len__" f) (F : FnOk X.prog X.w X.K X.mg X.base (L2.CX X.prog X.w) k f fd ps (spEv (sy T X) cf)) (hr : Room (k + 1) X.A) (hb : Binds X.K fd ps []) (hm : X.mg "len" = none) (h1 : SE T X W a f1) (hg : Gl X "len" := by rfl)
    (he : starEach [a] X.env = (false, eval a X.env) :: starEach [] X.env := by rfl) : SE T X W (.Call (.Name "len" p) [a] [] pos) (eLenO c cf f1) :=
  (pe_callB (call_lenO D F hr hb) hg hm (by decide +kernel) (pa_cons h1 pa_nil he) (by decide) (by decide) he rfl).imp fun σ H Q q => by
    obtain ⟨ρ, e, h, R, E, a⟩ := q
    unfold eLenO at a
    refine ⟨ρ, e, h, R, E, a.bind.mono fun v H1 ⟨ρ1, d, h1, s, R1, r1, a1⟩ => ?_⟩
    split at a1
    · rename_i c' fs hx
      split at a1
      · rename_i hc
        subst hc
        obtain ⟨p, dx, ps, rfl, hi, _⟩ := ins_of R1 r1 hx
        obtain ⟨z, h2, ez, a2⟩ := a1.noX'
        refine ⟨p, dx, ps, rfl, hi, ρ1, h1, _, R1, .cons r1 .nil, ?_⟩
        rw [ez]
        refine fun ρ2 u H2 s2 R2 r2 => ?_
        split at a2
        · split at a2
          · rename_i n hn
            obtain rfl := r2.int_
            exact ⟨n, rfl, hn.1, by have := hn.2; omega, a2 ρ2 _ H2 s2 R2 r2⟩
          · exact a2.elim
        · exact a2.elim
      · exact a1.elim
    · exact a1.elim
end
end Lad
end
section
set_option maxRecDepth 100000
set_option maxHeartbeats 2000000
namespace Lad
open PySem L2
open PySem.W (Frag)
def noList (K : Frag) : Bool := K.all fun p => decide (p.2.cls ≠ .type "list")
theorem noList_ok {K : Frag} (h : noList K = true) {a : Addr} {o : Obj} (e : K.lookup a = some o) : o.cls ≠ .type "list" := by
  have m : (a, o) ∈ K := by
    clear h
    induction K with
    | nil => cases e
    | cons p r ih =>
      obtain ⟨b, ob⟩ := p
      rw [List.lookup_cons] at e
      by_cases q : a = b
      · subst q
        simp at e
        subst e
        exact List.mem_cons_self
      · have q2 : (a == b) = false := by simpa using q
        rw [q2] at e
        exact List.mem_cons_of_mem _ (ih e)
  exact of_decide_eq_true (List.all_eq_true.mp h _ m)
/-- the law's promise out of the plain law -/
theorem sp_law {S : Sy} {cf : List Val → Hea → Res Val} {n : Nat} (nl : noList S.K = true) (p : ∀ ns : List Int, ns.length ≤ n → ∃ h, cf [.ref 0] [.fro ns] = .ok (.bl true) h) {H : Hp} {a : Addr} {ns : List Int} (hl : ns.length ≤ n)
    (hO : Only H) (hS : SqL S.K H a (ns.map V.int)) : spEv S cf [.ref a] H (fun v _ => v = .bl true) fun _ _ _ => False := by
  have hz : ∃ o, H a = some (.frz o (.lst (ns.map V.int))) := by
    rcases hS with hR | ⟨o, its, m, lk, hc, _⟩
    · rcases hR with hR | ⟨o, hR⟩
      · rcases hO a with z | ⟨o, xs, z⟩
        · rw [z] at hR; cases hR
        · rw [z] at hR; cases hR
      · exact ⟨o, hR⟩
    · exact absurd hc (noList_ok nl lk)
  obtain ⟨o, hz⟩ := hz
  refine ⟨⟨[a], []⟩, [.fro ns], [.ref 0], ⟨rfl, ?_, ?_, fun _ m => nomatch m⟩, .cons (.ref rfl) .nil, ?_⟩
  · intro i j b e1 e2
    match i, j with
    | 0, 0 => rfl
    | i + 1, _ => simp at e1
    | _, j + 1 => simp at e2
  · intro i ob b e1 e2
    match i with
    | 0 =>
      simp at e1 e2
      subst e1 e2
      exact .fro hz
    | i + 1 => simp at e1
  · obtain ⟨h, e⟩ := p ns hl
    rw [e]
    intro ρ1 v H1 s R1 r
    exact r.bl_
end Lad
end
section
set_option maxRecDepth 100000
set_option maxHeartbeats 2000000
namespace Lad
open PySem PySem.Spec PyProof.Rows L2
abbrev NE (X : Cx) := nestedKind X.prog X.w
abbrev NPs := List (NestedKey × Addr × V)
abbrev NP : NPs → List (NestedKey × Addr × Value) → Prop := Paired fun p q => p.1 = q.1 ∧ p.2.1 = q.2.1 ∧ RelV p.2.2 q.2.2
def valN (ps : NPs) (k : NestedKey) : Option V := (ps.find? fun p => decide (p.1 = k)).map (·.2.2)
def putNk (ps : NPs) (k : NestedKey) (b : Addr) (v : V) : NPs := if (ps.any fun p => decide (p.1 = k)) = true then ps.map (fun p => if p.1 = k then (p.1, p.2.1, v) else p) else ps ++ [(k, b, v)]
def dropNk (ps : NPs) (k : NestedKey) : NPs := ps.filter fun p => decide (p.1 ≠ k)
theorem NP.val {ps : NPs} {xs : List (NestedKey × Addr × Value)} (r : NP ps xs) (k : NestedKey) : RelO (valN ps k) ((atKey xs k).map (·.2)) := by
  induction r with
  | nil => exact True.intro
  | @cons p q ps qs h t ih =>
    obtain ⟨h1, _, h3⟩ := h
    by_cases c : p.1 = k
    · have c' : q.1 = k := h1 ▸ c
      simpa [valN, atKey, List.find?_cons, c, c', RelO] using h3
    · have c' : ¬ q.1 = k := fun z => c (h1 ▸ z)
      simpa [valN, atKey, List.find?_cons, c, c'] using ih
theorem NP.any {ps : NPs} {xs : List (NestedKey × Addr × Value)} (r : NP ps xs) (k : NestedKey) : (ps.any fun p => decide (p.1 = k)) = (atKey xs k).isSome := by
  induction r with
  | nil => rfl
  | @cons p q ps qs h t ih =>
    by_cases c : p.1 = k
    · have c' : q.1 = k := h.1 ▸ c
      simp [atKey, c, c']
    · have c' : ¬ q.1 = k := fun z => c (h.1 ▸ z)
      simpa [atKey, List.find?_cons, c, c'] using ih
theorem NP.repl {ps : NPs} {xs : List (NestedKey × Addr × Value)} (r : NP ps xs) (k : NestedKey) {v : V} {u : Value} (rv : RelV v u) : NP (ps.map fun p => if p.1 = k then (p.1, p.2.1, v) else p) (xs.map (putAt k u)) := by
  induction r with
  | nil => exact .nil
  | @cons p q ps qs h t ih =>
    rw [List.map_cons, List.map_cons]
    refine .cons ?_ ih
    unfold putAt
    by_cases c : p.1 = k
    · rw [if_pos c, if_pos (h.1.symm.trans c)]
      exact ⟨h.1, h.2.1, rv⟩
    · rw [if_neg c, if_neg fun z => c (h.1.trans z)]
      exact h
theorem NP.put {ps : NPs} {xs : List (NestedKey × Addr × Value)} (r : NP ps xs) (k : NestedKey) (b : Addr) {v : V} {u : Value} (rv : RelV v u) : NP (putNk ps k b v) (storedH xs k b u) := by
  unfold putNk storedH
  rw [r.any k]
  split
  · exact r.repl k rv
  · exact Paired.snoc r ⟨rfl, rfl, rv⟩
theorem NP.drop {ps : NPs} {xs : List (NestedKey × Addr × Value)} (r : NP ps xs) (k : NestedKey) : NP (dropNk ps k) (withoutH xs k) := by
  unfold dropNk withoutH
  induction r with
  | nil => exact .nil
  | @cons p q ps qs h t ih =>
    by_cases c : p.1 = k
    · have c' : q.1 = k := h.1 ▸ c
      simpa [List.filter_cons, c, c'] using ih
    · have c' : ¬ q.1 = k := fun z => c (h.1 ▸ z)
      simp only [List.filter_cons, c, c', ne_eq, not_false_eq_true, decide_true, if_true]
      exact .cons h (by simpa [List.filter_cons] using ih)
theorem NP.length {ps : NPs} {xs : List (NestedKey × Addr × Value)} (r : NP ps xs) : ps.length = xs.length := Paired.length r
theorem length_putNk (ps : NPs) (k : NestedKey) (b : Addr) (v : V) : (putNk ps k b v).length ≤ ps.length + 1 := by
  unfold putNk
  split <;> simp
mutual
theorem nkF_depth : ∀ (n : Nat) {d : Val} {k : NestedKey}, nkF n d = some k → k.depth ≤ n
  | n + 1, .tup xs, _, e => by
    unfold nkF at e
    cases hk : nkAll (nkF n) xs with
    | none => rw [hk] at e; cases e
    | some ks =>
      rw [hk] at e
      cases e
      have := nkAll_depth n hk
      simp only [NestedKey.depth]
      omega
  | 0, .tup xs, _, e => by cases e
  | 0, .int i, _, e => by cases e; exact Nat.zero_le _
  | n + 1, .int i, _, e => by cases e; exact Nat.zero_le _
  | 0, .bl i, _, e => by cases e; exact Nat.zero_le _
  | n + 1, .bl i, _, e => by cases e; exact Nat.zero_le _
  | 0, .str i, _, e => by cases e; exact Nat.zero_le _
  | n + 1, .str i, _, e => by cases e; exact Nat.zero_le _
  | 0, .non, _, e => by cases e; exact Nat.zero_le _
  | n + 1, .non, _, e => by cases e; exact Nat.zero_le _
  | 0, .lst _, _, e => by cases e
  | n + 1, .lst _, _, e => by cases e
  | 0, .dic _ _ _, _, e => by cases e
  | n + 1, .dic _ _ _, _, e => by cases e
  | 0, .obj _ _ _, _, e => by cases e
  | n + 1, .obj _ _ _, _, e => by cases e
  | 0, .ref _, _, e => by cases e
  | n + 1, .ref _, _, e => by cases e
  | 0, .exn _ _, _, e => by cases e
  | n + 1, .exn _ _, _, e => by cases e
theorem nkAll_depth : ∀ (n : Nat) {ds : List Val} {ks : List NestedKey}, nkAll (nkF n) ds = some ks → NestedKey.depthAll ks ≤ n
  | _, [], _, e => by cases e; exact Nat.zero_le _
  | n, d :: ds, _, e => by
    unfold nkAll at e
    cases h1 : nkF n d with
    | none => rw [h1] at e; cases e
    | some k =>
      cases h2 : nkAll (nkF n) ds with
      | none => rw [h1, h2] at e; cases e
      | some ks =>
        rw [h1, h2] at e
        cases e
        have := nkF_depth n h1
        have := nkAll_depth n h2
        simp only [NestedKey.depthAll]
        omega
end
section
variable {T : Tb} {X : Cx} {pins : List (Addr × PySem.Obj)} {σ : L2.St} {H : Hp} {s : Shared} {ρ : Own}
mutual
theorem nkF_is (I : Inv X pins σ H s) : ∀ (n : Nat) {d : Val} {k : NestedKey} {v : V} {u : Value}, nkF n d = some k → Rep (sy T X) ρ H d v → RelV v u → NestedIs s.heap k u
  | n + 1, .tup xs, _, _, u, e, .tup (a := a) sq r, rv => by
    unfold nkF at e
    cases hk : nkAll (nkF n) xs with
    | none => rw [hk] at e; cases e
    | some ks =>
      rw [hk] at e
      cases e
      obtain rfl : u = Value.ref a := rv
      obtain ⟨its, rr, ⟨o, g1, g2, m, g3⟩, _⟩ := I.tuple sq.sq
      exact .tup g1 g2 g3 (by simpa using nkAll_is I n hk r rr)
  | 0, .tup xs, _, _, _, e, _, _ => by cases e
  | 0, .int i, _, _, _, e, .int _, rv => by obtain ⟨t, rfl⟩ := rv; cases e; exact .int _ _
  | n + 1, .int i, _, _, _, e, .int _, rv => by obtain ⟨t, rfl⟩ := rv; cases e; exact .int _ _
  | 0, .bl b, _, _, u, e, .bl _, rv => by obtain rfl : u = Value.bool b := rv; cases e; exact .bool rfl
  | n + 1, .bl b, _, _, u, e, .bl _, rv => by obtain rfl : u = Value.bool b := rv; cases e; exact .bool rfl
  | 0, .str i, _, _, _, e, .str _, rv => by obtain ⟨t, rfl⟩ := rv; cases e; exact .text _ _
  | n + 1, .str i, _, _, _, e, .str _, rv => by obtain ⟨t, rfl⟩ := rv; cases e; exact .text _ _
  | 0, .non, _, _, u, e, .non, rv => by obtain rfl : u = Value.none := rv; cases e; exact .none
  | n + 1, .non, _, _, u, e, .non, rv => by obtain rfl : u = Value.none := rv; cases e; exact .none
  | 0, .lst _, _, _, _, e, _, _ => by cases e
  | n + 1, .lst _, _, _, _, e, _, _ => by cases e
  | 0, .dic _ _ _, _, _, _, e, _, _ => by cases e
  | n + 1, .dic _ _ _, _, _, _, e, _, _ => by cases e
  | 0, .obj _ _ _, _, _, _, e, _, _ => by cases e
  | n + 1, .obj _ _ _, _, _, _, e, _, _ => by cases e
  | 0, .ref _, _, _, _, e, _, _ => by cases e
  | n + 1, .ref _, _, _, _, e, _, _ => by cases e
  | 0, .exn _ _, _, _, _, e, _, _ => by cases e
  | n + 1, .exn _ _, _, _, _, e, _, _ => by cases e
theorem nkAll_is (I : Inv X pins σ H s) : ∀ (n : Nat) {ds : List Val} {ks : List NestedKey} {vs : List V} {us : List Value}, nkAll (nkF n) ds = some ks → Reps (sy T X) ρ H ds vs → Vals vs us → NestedAll s.heap ks us
  | _, [], _, _, _, e, .nil, .nil => by cases e; exact .nil
  | n, d :: ds, _, _, _, e, .cons r t, .cons rv tv => by
    unfold nkAll at e
    cases h1 : nkF n d with
    | none => rw [h1] at e; cases e
    | some k =>
      cases h2 : nkAll (nkF n) ds with
      | none => rw [h1, h2] at e; cases e
      | some ks =>
        rw [h1, h2] at e
        cases e
        exact .cons (nkF_is I n h1 r rv) (nkAll_is I n h2 t tv)
end
theorem toNK_is (I : Inv X pins σ H s) {d : Val} {k : NestedKey} {b : Addr} (e : toNK d = some k) (r : Rep (sy T X) ρ H d (.ref b)) : (NE X).is s.heap k b := by
  unfold toNK at e
  cases d with
  | tup xs => exact ⟨nkF_is I 8 e r rfl, nkF_depth 8 e⟩
  | _ => cases e
theorem toNK_ref {S : Sy} {d : Val} {k : NestedKey} {v : V} (e : toNK d = some k) (r : Rep S ρ H d v) : ∃ b, v = .ref b := by
  cases d with
  | tup xs => obtain ⟨b, _, rfl, _⟩ := r.tup_; exact ⟨b, rfl⟩
  | _ => cases e
theorem KvN.is (I : Inv X pins σ H s) : ∀ {kvs : List (Val × Val)} {ps : NPs}, KvN (sy T X) ρ H kvs ps → ∀ p ∈ ps, (NE X).is s.heap p.1 p.2.1
  | _, _, .nil => fun _ h => nomatch h
  | _, _, .cons r e q t => fun p h => by
    rcases List.mem_cons.mp h with rfl | h
    · exact toNK_is I e r
    · exact t.is I p h
end
section
variable {X : Cx} {pins : List (Addr × PySem.Obj)} {σ : L2.St} {H : Hp} {s : Shared} {a b : Addr} {ps : NPs} {k : NestedKey} {A : Around} {E : Value → Shared → Prop}
theorem dn_dict (I : Inv X pins σ H s) (h : Rd H a (dnO X.prog X.w a ps)) (ks : ∀ p ∈ ps, (NE X).is s.heap p.1 p.2.1) : ps.length ≤ sizeLine ∧ (a == sysModules) = false ∧ ∃ xs, NP ps xs ∧ s.heap.DictOfH (NE X) a xs := by
  obtain ⟨z, hd, xs, r, o, es, ep, h1, h2, h3, h4, h5⟩ := dn_obj I h
  refine ⟨z, hd, xs, r, o, es, ep, h1, h2, h3, h4, fun x hx => ?_, h5⟩
  obtain ⟨i, hi⟩ := List.getElem?_of_mem hx
  have : ∀ {l : NPs} {m : List (NestedKey × Addr × Value)}, NP l m → (∀ p ∈ l, (NE X).is s.heap p.1 p.2.1) → ∀ x ∈ m, (NE X).is s.heap x.1 x.2.1 := by
    intro l m q
    induction q with
    | nil => exact fun _ x hx => nomatch hx
    | @cons p q l m e t ih =>
      intro w x hx
      rcases List.mem_cons.mp hx with rfl | hx
      · have := w p List.mem_cons_self
        rw [e.1, e.2.1] at this
        exact this
      · exact ih (fun p hp => w p (List.mem_cons_of_mem _ hp)) x hx
  exact this r ks x hx
/-- what the dict at a holds at the key y, its keys nested tuples -/
def DNk (X : Cx) (H : Hp) (a : Addr) (y : V) (r : Option V) : Prop := ∃ ps k b, Rd H a (dnO X.prog X.w a ps) ∧ (∀ pins σ s, Inv X pins σ H s → ∀ p ∈ ps, (NE X).is s.heap p.1 p.2.1) ∧ y = .ref b ∧ (∀ pins σ s, Inv X pins σ H s → (NE X).is s.heap k b) ∧ r = valN ps k
/-- .. whatever its keys -/
def DG (X : Cx) (H : Hp) (a : Addr) (y : V) (r : Option V) : Prop := DGet H a y r ∨ DNk X H a y r
theorem ne_room (hu : A.units + 20 < cLine) : (NE X).room A.in1 := by
  show A.units + 1 + 8 < cLine
  omega
variable {y v d : V} {u r : Value} {o : Option V}
theorem g_getItem {Q : Value → Shared → Prop} (hu : A.units + 20 < cLine) (I : Inv X pins σ H s) (g : DG X H a y (some v)) (ry : RelV y u) (h : ∀ w' s', Inv X pins σ H s' → RelV v w' → Q w' s') : wpAny (model X.prog X.w) A (getItem (.ref a) u) Q E s := by
  rcases g with g | ⟨ps, k, b, e, ks, rfl, kb, l⟩
  · exact d_getItem (by omega) I g ry h
  · obtain rfl : u = Value.ref b := ry
    obtain ⟨_, _, xs, np, dd⟩ := dn_dict I e (ks _ _ _ I)
    obtain ⟨w', hw, rw'⟩ := RelO.some_of (v := v) (by rw [l]; exact np.val k)
    obtain ⟨p, hp, rfl⟩ := Option.map_eq_some_iff.mp hw
    exact wpAny_getItem_heap (ne_room hu) (kb _ _ _ I) dd hp (h _ _ (I.tok _) rw')
theorem g_notIn {Q : Value → Shared → Prop} (hu : A.units + 20 < cLine) (I : Inv X pins σ H s) (g : DG X H a y o) (ry : RelV y u) (h : ∀ s', Inv X pins σ H s' → Q (.bool (!o.isSome)) s') : wpAny (model X.prog X.w) A (compareOp .NotIn u (.ref a)) Q E s := by
  rcases g with g | ⟨ps, k, b, e, ks, rfl, kb, l⟩
  · exact d_notIn (by omega) I g ry h
  · obtain rfl : u = Value.ref b := ry
    obtain ⟨_, hd, xs, np, dd⟩ := dn_dict I e (ks _ _ _ I)
    refine wpAny_notIn_heap (ne_room hu) (kb _ _ _ I) hd dd ?_
    have q := (np.val k).isSome_eq
    rw [Option.isSome_map, ← l] at q
    rw [← q]
    exact h _ (I.tok _)
theorem g_get2 {Q : Value → Shared → Prop} (hu : A.units + 20 < cLine) (I : Inv X pins σ H s) (g : DG X H a y o) (ry : RelV y u) (rd : RelV d r) (h : ∀ w' s', Inv X pins σ H s' → RelV (o.getD d) w' → Q w' s') : wpAny (model X.prog X.w) A (call (.builtin "dict.get") [.ref a, u, r]) Q E s := by
  rcases g with g | ⟨ps, k, b, e, ks, rfl, kb, l⟩
  · exact d_get2 (by omega) I g ry rd h
  · obtain rfl : u = Value.ref b := ry
    obtain ⟨_, hd, xs, np, dd⟩ := dn_dict I e (ks _ _ _ I)
    refine call_meetsIn PySem.F.slot_dict_get dd.typeIs PySem.F.entry_dict_get (PySem.F.args_dict_get_3 _ _ _) (meetsH_dict_get_default (NE X) a b hd r) ⟨ne_room hu, k, xs, kb _ _ _ I, dd, h _ _ (I.tok _) ?_⟩
    rw [l]
    exact (np.val k).getD rd
/-- what stands behind a store -/
theorem dn_new {H' : Hp} {h' : Heap} {xs : List (NestedKey × Addr × Value)} (z : ps.length ≤ sizeLine) (hd : (a == sysModules) = false) (np : NP ps xs) (dd : h'.DictOfH (NE X) a xs) : ObjOk X.prog X.w H' h' a (dnO X.prog X.w a ps) := by
  obtain ⟨o, es, ep, h1, h2, h3, h4, _, h5⟩ := dd
  refine ⟨⟨z, hd, xs, np, o, es, ep, h1, h2, h3, h4, h5⟩, ⟨o, h1⟩, fun g1 g2 q st => ?_⟩
  obtain ⟨z, hd, xs, np, o, es, ep, h1, r⟩ := q
  exact ⟨z, hd, xs, np, o, es, ep, st _ h1, r⟩
/-- the heap behind a[y] = v -/
def DNp (X : Cx) (H : Hp) (a : Addr) (y v : V) (H' : Hp) : Prop := ∃ ps k b, H a = some (dnO X.prog X.w a ps) ∧ (∀ pins σ s, Inv X pins σ H s → ∀ p ∈ ps, (NE X).is s.heap p.1 p.2.1) ∧ y = .ref b ∧ (∀ pins σ s, Inv X pins σ H s → (NE X).is s.heap k b) ∧ ps.length < sizeLine ∧ H' = upd H a (dnO X.prog X.w a (putNk ps k b v))
def DP (X : Cx) (H : Hp) (a : Addr) (y v : V) (H' : Hp) : Prop := DPut H a y v H' ∨ DNp X H a y v H'
theorem g_setItem {H' : Hp} {Q : Unit → Shared → Prop} (hu : A.units + 20 < cLine) (I : Inv X pins σ H s) (g : DP X H a y v H') (ry : RelV y u) (rv : RelV v r) (h : ∀ s', Inv X pins σ H' s' → Q () s') : wpAny (model X.prog X.w) A (setItem (.ref a) u r) Q E s := by
  rcases g with g | ⟨ps, k, b, e, ks, rfl, kb, hl, rfl⟩
  · exact d_setItem (by omega) I g ry rv h
  · obtain rfl : u = Value.ref b := ry
    obtain ⟨z, hd, xs, np, dd⟩ := dn_dict I (.inl e) (ks _ _ _ I)
    have hz := length_putNk ps k b v
    refine wpAny_setItem_heap (hsz := by rw [← np.length]; exact z) (ne_room hu) (kb _ _ _ I) dd fun h' dd' hs => h _ ?_
    have he : ∃ q, h'.get? a = some q := let ⟨q, _, _, hq, _⟩ := dd'; ⟨q, hq⟩
    exact d_write I (by rw [e]; exact True.intro) hs he (dn_new (by omega) hd (np.put k b rv) dd')
/-- it is a dict -/
def IsG (X : Cx) (H : Hp) (a : Addr) : Prop := IsD H a ∨ ∃ ps, Rd H a (dnO X.prog X.w a ps)
theorem isG_at (I : Inv X pins σ H s) (d : IsG X H a) : s.TypeIs (.ref a) "dict" ∧ (∀ b, Value.ref a = .ref b → ∃ ob, s.heap.get? b = some ob ∧ ob.dict = none) ∧ (a == sysModules) = false := by
  rcases d with d | ⟨ps, e⟩
  · exact isD_at I d
  · obtain ⟨_, hd, xs, _, o, es, ep, h1, h2, _⟩ := dn_obj I e
    exact ⟨⟨o, h1, h2.1⟩, fun b q => by cases q; exact ⟨o, h1, h2.2.1⟩, hd⟩
theorem DG.isG (g : DG X H a y o) : IsG X H a := by
  rcases g with g | ⟨ps, k, b, e, _⟩
  · rcases g with ⟨kvs, k, e, _⟩ | ⟨kvs, k, b, e, _⟩
    · exact .inl (.inl ⟨_, e⟩)
    · exact .inl (.inr ⟨_, e⟩)
  · exact .inr ⟨_, e⟩
end
section
variable {X : Cx} {o i e value f : Expr} {pos pos' tpos apos cpos : Pos} {td ty tv tx : TE}
def tG (X : Cx) (td ty : TE) : TE := fun σ H Q => td σ H fun x H1 => ty σ H1 fun y H2 => ∃ a v, x = .ref a ∧ DG X H2 a y (some v) ∧ Q v H2
theorem pe_g (hu : X.A.units + 20 < cLine) (ho : PE X o td) (hi : PE X i ty) (hs : NoSl i) : PE X (.Subscript o i pos) (tG X td ty) := by
  refine ⟨fun pins s σ H Q I h => subD_of PySem.F.slot_dict_getitem.lookup hs (thn (ho.run pins s σ H _ I h) fun u s1 ⟨x, H1, I1, rx, q1⟩ => thn (hi.run pins s1 σ H1 _ I1 q1) fun iv s2 ⟨y, H2, I2, ry, a, v, ex, g, q2⟩ => ?_)⟩
  subst ex
  obtain rfl : u = Value.ref a := rx
  exact ⟨(isG_at I2 g.isG).1, g_getItem hu I2 g ry fun w' s3 I3 rw' => ⟨v, H2, I3, rw', q2⟩⟩
def tG2 (X : Cx) (td ty tx : TE) : TE := fun σ H Q => td σ H fun x H1 => ∃ a, x = .ref a ∧ IsG X H1 a ∧ ty σ H1 fun y H2 => tx σ H2 fun z H3 => ∃ o, DG X H3 a y o ∧ Q (o.getD z) H3
theorem pe_g2 (hu : X.A.units + 20 < cLine) (ho : PE X o td) (he : PE X e ty) (hf : PE X f tx) (m : M2 X o "get" apos e f cpos) : PE X (.Call (.Attribute o "get" apos) [e, f] [] cpos) (tG2 X td ty tx) := by
  refine ⟨fun pins s σ H Q I h => wpAny_Call_method m.base m.few m.line PySem.F.plainAttrs_dict PySem.F.slot_dict_get PySem.F.type_dict_get (thn (ho.run pins s σ H _ I h) fun u s1 ⟨x, H1, I1, rx, a, ex, d, q1⟩ => ?_)⟩
  subst ex
  obtain rfl : u = Value.ref a := rx
  obtain ⟨t1, t2, _⟩ := isG_at I1 d
  refine ⟨t1, t2, ?_⟩
  rw [m.trees]
  refine Calls.callWith_builtin rfl (Calls.evalArgs_plain (Calls.spliced_cons (thn (he.run pins s1 σ H1 _ I1 q1) fun iv s2 ⟨y, H2, I2, ry, q2⟩ => ?_)))
  refine Calls.spliced_cons (thn (hf.run pins s2 σ H2 _ I2 q2) fun fv s3 ⟨z, H3, I3, rz, ov, g, q3⟩ => Calls.spliced_nil ?_)
  exact g_get2 hu I3 g ry rz fun w' s4 I4 rw' => ⟨_, H3, I4, rw', q3⟩
def sG (X : Cx) (td ty tv : TE) : TS := fun D σ H => tv σ H fun v H1 => td σ H1 fun x H2 => ty σ H2 fun y H3 => ∃ a H4, x = .ref a ∧ DP X H3 a y v H4 ∧ D.nx σ H4
theorem ps_g (hu : X.A.units + 20 < cLine) (ho : PE X o td) (hi : PE X i ty) (hv : PE X value tv) (hs : swapsWith value (some (.Subscript o i pos')) pos.line X.env = pure false) : PS X (.Assign [.Subscript o i pos'] value pos) (sG X td ty tv) := by
  refine ⟨fun pins s σ H D I h => wpAny_Assign_Subscript (thn (hv.run pins s σ H _ I h) fun r s1 ⟨v, H1, I1, rv, q1⟩ => ?_) hs⟩
  refine thn (ho.run pins s1 σ H1 _ I1 q1) fun u s2 ⟨x, H2, I2, rx, q2⟩ => thn (hi.run pins s2 σ H2 _ I2 q2) fun iv s3 ⟨y, H3, I3, ry, a, H4, ex, g, q3⟩ => ?_
  subst ex
  obtain rfl : u = Value.ref a := rx
  exact g_setItem hu I3 g ry rv fun s4 I4 => ⟨σ, H4, I4, q3⟩
end
end Lad
end
section
set_option maxRecDepth 100000
set_option maxHeartbeats 2000000
namespace Lad
open PySem PySem.Spec PyProof.Rows L2
/-- {} to be changed: keys ints and texts; keys tuples -/
def eD0K : En → Hea → Res Val := fun _ h => .ok (.ref h.length) (h ++ [.dcK []])
def eD0T : En → Hea → Res Val := fun _ h => .ok (.ref h.length) (h ++ [.dcT []])
section
variable {T : Tb} {X : Cx} {W : WX} {pos : Pos}
theorem se_d0K : SE T X W (.Dict [] [] pos) eD0K := pe_dnewK.imp fun σ H Q q => by
  obtain ⟨ρ, e, h, R, E, a⟩ := q
  intro p n
  exact a (ρ.add p) (.ref p) _ (.new n) (R.new n (.dcK upd_same .nil)) (.ref (by rw [R.len]; exact add_at))
theorem pe_dnewN : PE X (.Dict [] [] pos) (fun σ H Q => ∀ p, H p = none → Q (.ref p) (upd H p (dnO X.prog X.w p []))) := by
  refine ⟨fun pins s σ H Q I h => ?_⟩
  have z := (pe_dnewK (X := X) (pos := pos)).run pins s σ H (fun v H' => ∃ p, v = .ref p ∧ H p = none ∧ H' = upd H p (.dK [])) I (fun p n => ⟨p, rfl, n, rfl⟩)
  · refine wpAny_mono z (fun u s1 ⟨x, H1, I1, rx, p, e, n, eH⟩ => ?_) fun _ _ q => q
    subst e eH
    have e1 : upd H p (.dK []) p = some (.dK []) := upd_same
    obtain ⟨z, hd, vs, kv, o, es, ep, g1, g2, g3, g4, g5, g6⟩ := I1.hok p _ e1
    cases kv
    have l0 : es.toList = [] := by cases hq : es.toList with
      | nil => rfl
      | cons a b => rw [hq] at g5; cases g5
    have I2 := I1.write (x := p) (e := p) (o := dnO X.prog X.w p []) (t' := s1.toks) (h' := s1.heap) (by rw [e1]; exact True.intro) (.inl rfl) (fun b w _ q => q) ⟨o, g1⟩
      ⟨⟨Nat.zero_le _, hd, [], .nil, o, es, ep, g1, g2, g3, l0, List.nodup_nil⟩, ⟨o, g1⟩, fun h1 h2 q st => by
        obtain ⟨a1, a2, a3, a4, o', b1, b2, c1, c2⟩ := q
        exact ⟨a1, a2, a3, a4, o', b1, b2, st _ c1, c2⟩⟩
    rw [upd_upd] at I2
    exact ⟨.ref p, _, I2, rx, h p n⟩
theorem se_d0T : SE T X W (.Dict [] [] pos) eD0T := pe_dnewN.imp fun σ H Q q => by
  obtain ⟨ρ, e, h, R, E, a⟩ := q
  intro p n
  exact a (ρ.add p) (.ref p) _ (.new n) (R.new n (.dcT upd_same .nil)) (.ref (by rw [R.len]; exact add_at))
end
def toKey : Val → Option Key
  | .int i => some (.inl i)
  | .str z => some (.inr z)
  | _ => none
theorem toKey_ok {d : Val} {k : Key} (e : toKey d = some k) : d = kvK k := by
  cases d <;> cases e <;> rfl
theorem kvK_rep {S : Sy} {ρ : Own} {H : Hp} {k : Key} {v : V} (r : Rep S ρ H (kvK k) v) : v = kV k := by
  cases k with
  | inl i => exact r.int_
  | inr z => exact r.str_
def keyEq : Val → Val → Bool
  | .int a, .int b => decide (a = b)
  | .str a, .str b => decide (a = b)
  | _, _ => false
theorem keyEq_kv (a b : Key) : keyEq (kvK a) (kvK b) = decide (a = b) := by
  cases a <;> cases b <;> simp [keyEq, keyVal]
def lkK : List (Val × Val) → Val → Option Val
  | [], _ => none
  | (k, d) :: r, x => if keyEq k x = true then some d else lkK r x
def hasK : List (Val × Val) → Val → Bool
  | [], _ => false
  | (k, _) :: r, x => keyEq k x || hasK r x
def putKv (x d : Val) (kvs : List (Val × Val)) : List (Val × Val) := if hasK kvs x = true then kvs.map (fun p => if keyEq p.1 x = true then (p.1, d) else p) else kvs ++ [(x, d)]
section
variable {S : Sy} {ρ : Own} {H : Hp}
theorem KvR.lk : ∀ {kvs : List (Val × Val)} {ps : List (Key × V)} {k : Key}, KvR S ρ H kvK kvs ps → match lkK kvs (kvK k) with
    | some d => ∃ v, valV ps k = some v ∧ Rep S ρ H d v
    | none => valV ps k = none
  | _, _, k, .nil => rfl
  | _, _, k, .cons (k := k') (d := d) (v := v) (ds := ds) (vs := vs) r t => by
    unfold lkK
    rw [keyEq_kv]
    by_cases h : k' = k
    · rw [if_pos (decide_eq_true h)]
      exact ⟨v, valV_pos h, r⟩
    · rw [if_neg (by simpa using h)]
      have ih := t.lk (k := k)
      revert ih
      cases lkK ds (kvK k) with
      | none => exact fun ih => (valV_neg h).trans ih
      | some d' => exact fun ⟨w, e1, e2⟩ => ⟨w, (valV_neg h).trans e1, e2⟩
theorem KvR.has : ∀ {kvs : List (Val × Val)} {ps : List (Key × V)} {k : Key}, KvR S ρ H kvK kvs ps → hasK kvs (kvK k) = ps.any fun kv => decide (kv.1 = k)
  | _, _, k, .nil => rfl
  | _, _, k, .cons r t => by
    unfold hasK
    rw [keyEq_kv, t.has, List.any_cons]
theorem KvR.app : ∀ {kvs : List (Val × Val)} {ps : List (Key × V)} {k : Key} {d : Val} {v : V}, KvR S ρ H kvK kvs ps → Rep S ρ H d v → KvR S ρ H kvK (kvs ++ [(kvK k, d)]) (ps ++ [(k, v)])
  | _, _, k, d, v, .nil, q => .cons q .nil
  | _, _, k, d, v, .cons r t, q => .cons r (t.app q)
theorem KvR.rep : ∀ {kvs : List (Val × Val)} {ps : List (Key × V)} {k : Key} {d : Val} {v : V}, KvR S ρ H kvK kvs ps → Rep S ρ H d v → KvR S ρ H kvK (kvs.map (fun p => if keyEq p.1 (kvK k) = true then (p.1, d) else p)) (ps.map fun kv => if kv.1 = k then (kv.1, v) else kv)
  | _, _, k, d, v, .nil, q => .nil
  | _, _, k, d, v, .cons (k := k') r t, q => by
    rw [List.map_cons, List.map_cons]
    simp only [keyEq_kv]
    by_cases h : k' = k
    · rw [if_pos (decide_eq_true h), if_pos h]
      have := t.rep (k := k) q
      exact .cons q (by simpa only [keyEq_kv] using this)
    · rw [if_neg (by simpa using h), if_neg h]
      have := t.rep (k := k) q
      exact .cons r (by simpa only [keyEq_kv] using this)
theorem KvR.put {kvs : List (Val × Val)} {ps : List (Key × V)} {k : Key} {d : Val} {v : V} (t : KvR S ρ H kvK kvs ps) (q : Rep S ρ H d v) : KvR S ρ H kvK (putKv (kvK k) d kvs) (putK ps k v) := by
  unfold putKv putK
  rw [t.has]
  split
  · exact t.rep q
  · exact t.app q
theorem KvR.length {κ : Type} {kd : κ → Val} : ∀ {kvs : List (Val × Val)} {ps : List (κ × V)}, KvR S ρ H kd kvs ps → kvs.length = ps.length
  | _, _, .nil => rfl
  | _, _, .cons _ t => by simp [t.length]
theorem KvR.zip {κ : Type} {kd : κ → Val} : ∀ {ks ds : List Val} {ps : List (κ × V)}, ks = ps.map (fun p => kd p.1) → Reps S ρ H ds (ps.map (·.2)) → KvR S ρ H kd (ks.zip ds) ps
  | _, _, [], e, r => by subst e; exact .nil
  | _, _, p :: ps, e, r => by
    subst e
    rw [List.map_cons] at r
    cases r with
    | cons q t => exact .cons q (KvR.zip rfl t)
end
/-- a dict by ints and texts, to be read -/
def dctOf (h : Hea) : Val → Option (List (Val × Val))
  | .dic false ks vs => some (ks.zip vs)
  | .ref i => match h[i]? with
    | some (.dcK kvs) => some kvs
    | some (.dcL kvs) => some kvs
    | _ => none
  | _ => none
theorem dct_of {S : Sy} {ρ : Own} {H : Hp} {h : Hea} {d : Val} {v : V} {kvs : List (Val × Val)} (R : Rel S ρ h H) (r : Rep S ρ H d v) (e : dctOf h d = some kvs) : ∃ a ps, v = .ref a ∧ Rd H a (.dK ps) ∧ KvR S ρ H kvK kvs ps := by
  unfold dctOf at e
  split at e
  · cases e
    cases r with
    | dicK f h1 e1 e2 r => subst e2; exact ⟨_, _, rfl, h1, KvR.zip e1 r⟩
  · obtain ⟨p, rfl, ep⟩ := r.ref_
    split at e
    · rename_i hx
      cases e
      have o := R.ob _ _ _ hx ep
      cases o with
      | dcK h1 h2 => exact ⟨p, _, rfl, .inl h1, h2⟩
    · rename_i hx
      cases e
      have o := R.ob _ _ _ hx ep
      cases o with
      | dcL h1 h2 => exact ⟨p, _, rfl, .inr ⟨_, h1⟩, h2⟩
    · cases e
  · cases e
def kEq (a b : Val) : Bool := match toNK a, toNK b with
  | some x, some y => NestedKey.beq x y
  | _, _ => false
def lkN : List (Val × Val) → Val → Option Val
  | [], _ => none
  | (k, d) :: r, x => if kEq k x = true then some d else lkN r x
def hasN : List (Val × Val) → Val → Bool
  | [], _ => false
  | (k, _) :: r, x => kEq k x || hasN r x
def putNv (x d : Val) (kvs : List (Val × Val)) : List (Val × Val) := if hasN kvs x = true then kvs.map (fun p => if kEq p.1 x = true then (p.1, d) else p) else kvs ++ [(x, d)]
theorem kEq_eq {a b : Val} {x y : NestedKey} (e1 : toNK a = some x) (e2 : toNK b = some y) : kEq a b = decide (x = y) := by
  unfold kEq
  rw [e1, e2, NestedKey.decide_eq]
def dcnOf (h : Hea) : Val → Option (List (Val × Val))
  | .dic true ks vs => some (ks.zip vs)
  | .ref i => match h[i]? with
    | some (.dcT kvs) => some kvs
    | some (.dcM kvs) => some kvs
    | _ => none
  | _ => none
theorem dcn_of {S : Sy} {ρ : Own} {H : Hp} {h : Hea} {d : Val} {v : V} {kvs : List (Val × Val)} (R : Rel S ρ h H) (r : Rep S ρ H d v) (e : dcnOf h d = some kvs) : ∃ a ps, v = .ref a ∧ Rd H a (dnO S.P S.w a ps) ∧ KvN S ρ H kvs ps := by
  unfold dcnOf at e
  split at e
  · cases e
    cases r with
    | dicT f h1 e1 e2 r e3 r2 => subst e1 e3; exact ⟨_, _, rfl, h1, KvN.zip r e2 r2⟩
  · obtain ⟨p, rfl, ep⟩ := r.ref_
    split at e
    · rename_i hx
      cases e
      have o := R.ob _ _ _ hx ep
      cases o with
      | dcT h1 h2 => exact ⟨p, _, rfl, .inl h1, h2⟩
    · rename_i hx
      cases e
      have o := R.ob _ _ _ hx ep
      cases o with
      | dcM h1 h2 => exact ⟨p, _, rfl, .inr ⟨_, h1⟩, h2⟩
    · cases e
  · cases e
section
variable {S : Sy} {ρ : Own} {H : Hp}
theorem KvN.lk {x : Val} {k : NestedKey} (e : toNK x = some k) : ∀ {kvs : List (Val × Val)} {ps : NPs}, KvN S ρ H kvs ps → match lkN kvs x with
    | some d => ∃ v, valN ps k = some v ∧ Rep S ρ H d v
    | none => valN ps k = none
  | _, _, .nil => rfl
  | _, _, .cons (k := k') (b := b) (kd := kd) (d := d) (v := v) (ds := ds) (vs := vs) r e' q t => by
    unfold lkN
    rw [kEq_eq e' e]
    by_cases h : k' = k
    · rw [if_pos (decide_eq_true h)]
      exact ⟨v, by simp [valN, List.find?_cons, h], q⟩
    · rw [if_neg (by simpa using h)]
      have ih := t.lk e
      have w : valN ((k', b, v) :: vs) k = valN vs k := by simp [valN, List.find?_cons, h]
      rw [w]
      exact ih
theorem KvN.has {x : Val} {k : NestedKey} (e : toNK x = some k) : ∀ {kvs : List (Val × Val)} {ps : NPs}, KvN S ρ H kvs ps → hasN kvs x = ps.any fun p => decide (p.1 = k)
  | _, _, .nil => rfl
  | _, _, .cons r e' q t => by
    unfold hasN
    rw [kEq_eq e' e, t.has e, List.any_cons]
theorem KvN.app {x d : Val} {k : NestedKey} {b : Addr} {v : V} (rk : Rep S ρ H x (.ref b)) (e : toNK x = some k) (rd : Rep S ρ H d v) : ∀ {kvs : List (Val × Val)} {ps : NPs}, KvN S ρ H kvs ps → KvN S ρ H (kvs ++ [(x, d)]) (ps ++ [(k, b, v)])
  | _, _, .nil => .cons rk e rd .nil
  | _, _, .cons r e' q t => .cons r e' q (t.app rk e rd)
theorem KvN.repl {x d : Val} {k : NestedKey} {v : V} (e : toNK x = some k) (rd : Rep S ρ H d v) : ∀ {kvs : List (Val × Val)} {ps : NPs}, KvN S ρ H kvs ps → KvN S ρ H (kvs.map (fun p => if kEq p.1 x = true then (p.1, d) else p)) (ps.map fun p => if p.1 = k then (p.1, p.2.1, v) else p)
  | _, _, .nil => .nil
  | _, _, .cons (k := k') r e' q t => by
    rw [List.map_cons, List.map_cons]
    dsimp only
    rw [kEq_eq e' e]
    by_cases h : k' = k
    · rw [if_pos (decide_eq_true h), if_pos h]
      exact .cons r e' rd (t.repl e rd)
    · rw [if_neg (by simpa using h), if_neg h]
      exact .cons r e' q (t.repl e rd)
theorem KvN.put {x d : Val} {k : NestedKey} {b : Addr} {v : V} {kvs : List (Val × Val)} {ps : NPs} (t : KvN S ρ H kvs ps) (rk : Rep S ρ H x (.ref b)) (e : toNK x = some k) (rd : Rep S ρ H d v) : KvN S ρ H (putNv x d kvs) (putNk ps k b v) := by
  unfold putNv putNk
  rw [t.has e]
  split
  · exact t.repl e rd
  · exact t.app rk e rd
theorem KvN.length : ∀ {kvs : List (Val × Val)} {ps : NPs}, KvN S ρ H kvs ps → kvs.length = ps.length
  | _, _, .nil => rfl
  | _, _, .cons _ _ _ t => congrArg (· + 1) t.length
end
/-- what d holds at k: told, of the right kind -/
def oDk (h : Hea) (a b : Val) : Option (Option Val) := match dctOf h a, toKey b with
  | some kvs, some _ => some (lkK kvs b)
  | _, _ => match dcnOf h a, toNK b with
    | some kvs, some _ => some (lkN kvs b)
    | _, _ => none
def oDGet (h : Hea) (a b : Val) : Option Val := match dctOf h a, toKey b with
  | some kvs, some _ => lkK kvs b
  | _, _ => match dcnOf h a, toNK b with
    | some kvs, some _ => lkN kvs b
    | _, _ => none
def isDct (h : Hea) (a : Val) : Bool := (dctOf h a).isSome || (dcnOf h a).isSome
theorem oDGet_k {h : Hea} {a b : Val} {d : Val} (e : oDGet h a b = some d) : oDk h a b = some (some d) := by
  unfold oDGet at e
  unfold oDk
  split at e
  · exact congrArg some e
  · split at e
    · exact congrArg some e
    · cases e
section
variable {T : Tb} {X : Cx} {W : WX} {a b : Expr} {f1 f2 f3 : En → Hea → Res Val} {pos : Pos}
theorem u1 {k : Nat} {A : Around} (hr : Room k A) : A.units + 20 < cLine := by have := hr.un; omega
/-- what a look-up gives -/
def OR (S : Sy) (ρ : Own) (H : Hp) : Option Val → Option V → Prop
  | some d, some v => Rep S ρ H d v
  | none, none => True
  | _, _ => False
theorem or_of {S : Sy} {ρ : Own} {H : Hp} {o : Option Val} {o' : Option V} (h : match o with
    | some d => ∃ v, o' = some v ∧ Rep S ρ H d v
    | none => o' = none) : OR S ρ H o o' := by
  cases o with
  | none => cases o' with
    | none => exact True.intro
    | some v => cases h
  | some d => obtain ⟨v, rfl, r⟩ := h; exact r
theorem OR.some {S : Sy} {ρ : Own} {H : Hp} {d : Val} {o' : Option V} (h : OR S ρ H (.some d) o') : ∃ v, o' = .some v ∧ Rep S ρ H d v := by
  cases o' with
  | none => exact h.elim
  | some v => exact ⟨v, rfl, h⟩
theorem OR.none {S : Sy} {ρ : Own} {H : Hp} {o' : Option V} (h : OR S ρ H .none o') : o' = .none := by
  cases o' with
  | none => rfl
  | some v => exact h.elim
theorem OR.isSome {S : Sy} {ρ : Own} {H : Hp} {o : Option Val} {o' : Option V} (h : OR S ρ H o o') : o'.isSome = o.isSome := by
  cases o with
  | none => rw [h.none]; rfl
  | some d => obtain ⟨v, rfl, _⟩ := h.some; rfl
theorem dg_of {ρ : Own} {H : Hp} {h : Hea} {d1 d2 : Val} {x y : V} {o : Option Val} (R : Rel (sy T X) ρ h H) (r1 : Rep (sy T X) ρ H d1 x) (r2 : Rep (sy T X) ρ H d2 y) (e : oDk h d1 d2 = some o) :
    ∃ p o', x = .ref p ∧ DG X H p y o' ∧ OR (sy T X) ρ H o o' := by
  unfold oDk at e
  split at e
  · rename_i kvs k e1 e2
    cases e
    obtain ⟨p, ps, rfl, hp, kv⟩ := dct_of R r1 e1
    obtain rfl := toKey_ok e2
    obtain rfl := kvK_rep r2
    exact ⟨p, valV ps k, rfl, .inl (.inl ⟨ps, k, hp, rfl, rfl⟩), or_of (kv.lk (k := k))⟩
  · split at e
    · rename_i kvs k e1 e2
      cases e
      obtain ⟨p, ps, rfl, hp, kv⟩ := dcn_of R r1 e1
      obtain ⟨b, rfl⟩ := toNK_ref e2 r2
      exact ⟨p, valN ps k, rfl, .inr ⟨ps, k, b, hp, fun _ _ _ I => kv.is I, rfl, fun _ _ _ I => toNK_is I e2 r2, rfl⟩, or_of (kv.lk e2)⟩
    · cases e
theorem isDct_ok {ρ : Own} {H : Hp} {h : Hea} {d : Val} {x : V} (R : Rel (sy T X) ρ h H) (r : Rep (sy T X) ρ H d x) (e : isDct h d = true) : ∃ p, x = .ref p ∧ IsG X H p := by
  unfold isDct at e
  rcases Bool.or_eq_true_iff.mp e with e | e
  · obtain ⟨kvs, e0⟩ := Option.isSome_iff_exists.mp e
    obtain ⟨p, ps, rfl, hp, _⟩ := dct_of R r e0
    exact ⟨p, rfl, .inl (.inl ⟨ps, hp⟩)⟩
  · obtain ⟨kvs, e0⟩ := Option.isSome_iff_exists.mp e
    obtain ⟨p, ps, rfl, hp, _⟩ := dcn_of R r e0
    exact ⟨p, rfl, .inr ⟨ps, hp⟩⟩
theorem se_dget (hu : X.A.units + 20 < cLine) (ha : SE T X W a f1) (hb : SE T X W b f2) (hs : NoSl b := by intro _ _; rfl) : SE T X W (.Subscript a b pos) (eBin oDGet f1 f2) := (pe_g hu ha hb hs).imp fun σ H Q q => by
  obtain ⟨ρ, e, h, R, E, a⟩ := q
  refine ⟨ρ, e, h, R, E, a.bind.mono fun u H1 ⟨ρ1, x, h1, s1, R1, r1, a1⟩ => ⟨ρ1, e, h1, R1, E.go s1, a1.bind.mono fun v H2 ⟨ρ2, y, h2, s2, R2, r2, a2⟩ => ?_⟩⟩
  cases hg : oDGet h2 x y with
  | none => rw [hg] at a2; exact a2.elim
  | some d =>
    rw [hg] at a2
    obtain ⟨p, o, rfl, g, ho⟩ := dg_of R2 (r1.go s2) r2 (oDGet_k hg)
    obtain ⟨w, rfl, rw⟩ := ho.some
    exact ⟨p, w, rfl, g, Aft.same (d := d) a2 R2 rw⟩
/-- d.get(k, x) -/
def eDGet2 (f1 f2 f3 : En → Hea → Res Val) : En → Hea → Res Val := fun e h => (f1 e h).bind fun d h1 => if isDct h1 d = true then (f2 e h1).bind fun k h2 => (f3 e h2).bind fun z h3 => match oDk h3 d k with
  | some o => .ok (o.getD z) h3
  | none => .stuck
  else .stuck
theorem se_dget2 {c : Expr} {apos cpos : Pos} (hu : X.A.units + 20 < cLine) (ha : SE T X W a f1) (hb : SE T X W b f2) (hc : SE T X W c f3) (m : M2 X a "get" apos b c cpos) : SE T X W (.Call (.Attribute a "get" apos) [b, c] [] cpos) (eDGet2 f1 f2 f3) :=
  (pe_g2 hu ha hb hc m).imp fun σ H Q q => by
    obtain ⟨ρ, e, h, R, E, a⟩ := q
    unfold eDGet2 at a
    refine ⟨ρ, e, h, R, E, a.bind.mono fun u H1 ⟨ρ1, x, h1, s1, R1, r1, a1⟩ => ?_⟩
    split at a1
    · rename_i hs
      obtain ⟨p, rfl, hp⟩ := isDct_ok R1 r1 hs
      refine ⟨p, rfl, hp, ρ1, e, h1, R1, E.go s1, a1.bind.mono fun v H2 ⟨ρ2, y, h2, s2, R2, r2, a2⟩ => ⟨ρ2, e, h2, R2, (E.go s1).go s2, a2.bind.mono fun z H3 ⟨ρ3, zd, h3, s3, R3, r3, a3⟩ => ?_⟩⟩
      split at a3
      · rename_i o hg
        obtain ⟨p', o', ep, g, ho⟩ := dg_of R3 ((r1.go s2).go s3) (r2.go s3) hg
        cases ep
        refine ⟨o', g, ?_⟩
        cases o with
        | none =>
          obtain rfl := ho.none
          exact Aft.same (d := zd) a3 R3 r3
        | some d =>
          obtain ⟨w, rfl, rw⟩ := ho.some
          exact Aft.same (d := d) a3 R3 rw
      · exact a3.elim
    · exact a1.elim
def oDNotIn (h : Hea) (a b : Val) : Option Val := (oDk h b a).map fun o => .bl (!o.isSome)
theorem o_dnotIn (hu : X.A.units + 20 < cLine) : OpR X (compareOp .NotIn) (rB (sy T X) oDNotIn) := by
  intro pins s σ H x y v u Q I rx ry q
  obtain ⟨ρ, h, d1, d2, R, r1, r2, a⟩ := q
  unfold oDNotIn at a
  cases hg : oDk h d2 d1 with
  | none => rw [hg] at a; exact a.elim
  | some o =>
    rw [hg] at a
    obtain ⟨p, o', rfl, g, ho⟩ := dg_of R r2 r1 hg
    obtain rfl : u = Value.ref p := ry
    refine g_notIn hu I g rx fun s' I' => ⟨.bl (!o'.isSome), H, I', rfl, ?_⟩
    rw [ho.isSome]
    exact Aft.same (d := .bl _) a R (.bl _)
def setD (h : Hea) (o k v : Val) : Option Hea := match o, toKey k with
  | .ref i, some _ => (match h[i]? with
    | some (.dcK kvs) => if kvs.length < 16777216 then some (h.set i (.dcK (putKv k v kvs))) else none
    | _ => none)
  | .ref i, none => (match h[i]?, toNK k with
    | some (.dcT kvs), some _ => if kvs.length < 16777216 then some (h.set i (.dcT (putNv k v kvs))) else none
    | _, _ => none)
  | _, _ => none
theorem setD_inv {h h' : Hea} {o k v : Val} (e : setD h o k v = some h') : (∃ i key kvs, o = .ref i ∧ toKey k = some key ∧ h[i]? = some (.dcK kvs) ∧ kvs.length < 16777216 ∧ h' = h.set i (.dcK (putKv k v kvs))) ∨
    ∃ i key kvs, o = .ref i ∧ toNK k = some key ∧ h[i]? = some (.dcT kvs) ∧ kvs.length < 16777216 ∧ h' = h.set i (.dcT (putNv k v kvs)) := by
  unfold setD at e
  split at e
  · rename_i i key hk
    split at e
    · rename_i kvs hx
      split at e
      · cases e
        exact .inl ⟨i, key, kvs, rfl, hk, hx, by assumption, rfl⟩
      · cases e
    · cases e
  · rename_i i hk
    split at e
    · rename_i kvs key hx hn
      split at e
      · cases e
        exact .inr ⟨i, key, kvs, rfl, hn, hx, by assumption, rfl⟩
      · cases e
    · cases e
  · cases e
/-- the store at the hand layer -/
theorem setD_dp {ρ : Own} {H : Hp} {h h' : Hea} {od kd vd : Val} {x y v : V} (R : Rel (sy T X) ρ h H) (r1 : Rep (sy T X) ρ H od x) (r2 : Rep (sy T X) ρ H kd y) (r3 : Rep (sy T X) ρ H vd v) (e : setD h od kd vd = some h') :
    ∃ p H', x = .ref p ∧ DP X H p y v H' ∧ Go (sy T X) ρ H ρ H' ∧ Rel (sy T X) ρ h' H' := by
  rcases setD_inv e with ⟨i, k, kvs, rfl, ek, hx, hl, rfl⟩ | ⟨i, k, kvs, rfl, ek, hx, hl, rfl⟩
  · obtain ⟨p, rfl, ep⟩ := r1.ref_
    have ob := R.ob _ _ _ hx ep
    cases ob with
    | @dcK _ ps _ hp kv =>
      obtain rfl := toKey_ok ek
      obtain rfl := kvK_rep r2
      have m : Mv (sy T X) ρ H ρ (upd H p (.dK (putK ps k v))) := .put ep hp True.intro
      exact ⟨p, _, rfl, .inl (DPut.k hp (by rw [sizeLine_eq, ← kv.length]; exact hl)), .put ep hp True.intro,
        R.put (o := .dK (putK ps k v)) (ob := .dcK (putKv (kvK k) vd kvs)) ep hp True.intro (.dcK upd_same ((kv.put r3).mono m))⟩
  · obtain ⟨p, rfl, ep⟩ := r1.ref_
    have ob := R.ob _ _ _ hx ep
    cases ob with
    | @dcT _ ps _ hp kv =>
      obtain ⟨b, rfl⟩ := toNK_ref ek r2
      have m : Mv (sy T X) ρ H ρ (upd H p (dnO X.prog X.w p (putNk ps k b v))) := .put ep hp True.intro
      exact ⟨p, _, rfl, .inr ⟨ps, k, b, hp, fun _ _ _ I => kv.is I, rfl, fun _ _ _ I => toNK_is I ek r2, by rw [sizeLine_eq, ← kv.length]; exact hl, rfl⟩, .put ep hp True.intro,
        R.put (o := dnO X.prog X.w p (putNk ps k b v)) (ob := .dcT (putNv kd vd kvs)) ep hp True.intro (.dcT upd_same ((kv.put r2 ek r3).mono m))⟩
def sDPut (fv fo fi : En → Hea → Res Val) : En → Hea → SRes := fun e h => ofR ((fv e h).bind fun v h1 => (fo e h1).bind fun o h2 => (fi e h2).bind fun i h3 => match setD h3 o i v with
  | some h4 => .ok Val.non h4
  | none => .stuck) e fun _ h4 => .nx e h4
theorem st_dput {c : Expr} {pos' : Pos} (hu : X.A.units + 20 < cLine) (hv : SE T X W c f3) (ho : SE T X W a f1) (hi : SE T X W b f2) (hs : swapsWith c (some (.Subscript a b pos')) pos.line X.env = pure false := by rfl) : SSt T X W (.Assign [.Subscript a b pos'] c pos) (Lad.sDPut f3 f1 f2) :=
  (ps_g hu ho hi hv hs).imp fun D σ H q => by
    obtain ⟨ρ, e, h, R, E, a⟩ := q
    unfold Lad.sDPut at a
    have a := (AftS.ofR a E).bind
    refine ⟨ρ, e, h, R, E, a.mono fun v H1 ⟨ρ1, d, h1, s1, R1, r1, a1⟩ => ⟨ρ1, e, h1, R1, E.go s1, a1.bind.mono fun x H2 ⟨ρ2, od, h2, s2, R2, r2, a2⟩ => ⟨ρ2, e, h2, R2, (E.go s1).go s2, a2.bind.mono fun y H3 ⟨ρ3, kd, h3, s3, R3, r3, a3⟩ => ?_⟩⟩⟩
    split at a3
    · rename_i h4 hset
      obtain ⟨p, H4, rfl, dp, g4, R4⟩ := setD_dp R3 (r2.go s3) r3 ((r1.go s2).go s3) hset
      refine ⟨p, H4, rfl, dp, ?_⟩
      obtain ⟨ρ5, d5, h5, s5, R5, r5, E5, a5⟩ := a3 ρ3 .non _ g4 R4 .non
      exact a5 ρ5 σ _ .rfl R5 E5
    · exact a3.elim
end
end Lad
end
section
set_option maxRecDepth 100000
set_option maxHeartbeats 2000000
namespace Lad
open PySem L2
theorem Reps.strs {S : Sy} {ρ : Own} {H : Hp} : ∀ {ns : List Str} {vs : List V}, Reps S ρ H (ns.map Val.str) vs → vs = ns.map V.str
  | [], _, .nil => rfl
  | n :: ns, _, .cons r t => by
    cases r
    rw [Reps.strs t]
    rfl
/-- the first place of z -/
def idxS : List Str → Str → Option Nat
  | [], _ => none
  | y :: ys, z => if y = z then some 0 else (idxS ys z).map (· + 1)
theorem idxS_ok : ∀ {ys : List Str} {z : Str} {j : Nat}, idxS ys z = some j → ys[j]? = some z ∧ ∀ m, m < j → ys[m]? ≠ some z
  | y :: ys, z, j, e => by
    unfold idxS at e
    split at e
    · rename_i h
      cases e
      exact ⟨by rw [h]; rfl, fun m hm => by omega⟩
    · rename_i h
      obtain ⟨i, e1, rfl⟩ := map_some e
      obtain ⟨h1, h2⟩ := idxS_ok e1
      refine ⟨h1, fun m hm => ?_⟩
      cases m with
      | zero => intro q; cases q; exact h rfl
      | succ m => exact h2 m (by omega)
section
variable {T : Tb} {X : Cx} {W : WX} {o a : Expr} {f g : En → Hea → Res Val} {apos cpos : Pos}
/-- C.index(e), C a tuple of texts that the module holds -/
def TupD (K : PySem.W.Frag) (mg : Str → Option Value) (x : Str) : Prop := ∃ a o, mg x = some (.ref a) ∧ K.lookup a = some o ∧ o.cls = .type "tuple" ∧ o.dict = none
def tupDB (x : Str) (K : PySem.W.Frag) : Bool := match PySem.W.nsIn K mainGlobals x with
  | some (some (.ref a)) => (match K.lookup a with
    | some o => decide (o.cls = .type "tuple") && o.dict.isNone
    | none => false)
  | _ => false
theorem tupDB_ok {K : PySem.W.Frag} {h : Heap} {mg : Str → Option Value} {x : Str} (Z : K.In h) (G : h.Ns mainGlobals mg) (c : tupDB x K = true) : TupD K mg x := by
  unfold tupDB at c
  split at c
  · rename_i a e
    split at c
    · rename_i o lk
      obtain ⟨h1, h2⟩ := Bool.and_eq_true_iff.mp c
      exact ⟨a, o, PySem.W.mg_of Z G e, lk, of_decide_eq_true h1, Option.isNone_iff_eq_none.mp h2⟩
    · cases c
  · cases c
def eIdxC (ys : List Str) (g : En → Hea → Res Val) : En → Hea → Res Val := fun e h => (g e h).bind fun y h1 => match y with
  | .str z => opt ((idxS ys z).map fun j => .int (j : Nat)) h1
  | _ => .stuck
theorem se_idxC {x : Str} {ys : List Str} {p : Pos} (c : ConOk X.K X.mg x (.tup (ys.map Val.str))) (t : TupD X.K X.mg x) (ha : SE T X W a g) (hg : Gl X x := by rfl) (hd : (x == ("__debug__" : Str)) = false := by decide)
    (hbase : attributeBase (.Name x p) "index" X.env (eval (.Name x p) X.env) = eval (.Name x p) X.env := by rfl)
    (hfew : ((backTo cpos (starEach (a :: []) X.env)).all (fun x => !x.1) && (backToKw cpos (keywordEach [] X.env)).all (fun x => x.1.isSome)
      && decide ((a :: []).length + ([] : List Keyword).length + (if ([] : List Keyword).isEmpty then 0 else 1) < 30)) = true := by rfl)
    (hline : (apos.endLine == cpos.line) = true := by rfl) (hs : starEach (a :: []) X.env = (false, eval a X.env) :: starEach [] X.env := by rfl) (hplain : (backTo cpos (starEach [] X.env)).any (·.1) = false := by rfl) :
    SE T X W (.Call (.Attribute (.Name x p) "index" apos) [a] [] cpos) (eIdxC ys g) := by
  obtain ⟨b, o, mb, lk, hc, hdn⟩ := t
  obtain ⟨u, m, v, r, q⟩ := c
  rw [mb] at m
  cases m
  have ev : v = .ref b := by
    cases v with
    | ref c => cases (show Value.ref b = Value.ref c from r); rfl
    | non => cases (show Value.ref b = Value.none from r)
    | bl c => cases (show Value.ref b = Value.bool c from r)
    | int c => obtain ⟨_, z⟩ := (show ∃ t, Value.ref b = Value.int c t from r); cases z
    | str c => obtain ⟨_, z⟩ := (show ∃ t, Value.ref b = Value.str c t from r); cases z
    | byt c => obtain ⟨_, z⟩ := (show ∃ t, Value.ref b = Value.bytes c t from r); cases z
    | flt c => obtain ⟨_, z⟩ := (show ∃ t, Value.ref b = Value.float c t from r); cases z
    | ty c => cases (show Value.ref b = Value.type c from r)
  subst ev
  refine (pe_bm PySem.F.plainAttrs_tuple PySem.F.slot_tuple_index PySem.F.type_tuple_index mt_tup_index (pe_glob hg mb r hd) (pa_cons ha pa_nil hs) hbase hfew hline hs hplain).imp fun σ H Q qq => ?_
  obtain ⟨ρ, e, h, R, E, a⟩ := qq
  unfold eIdxC at a
  refine ⟨.inr (.inl ⟨rfl, o, lk, hc, hdn⟩), ρ, e, h, R, E, a.bind.mono fun yv H2 ⟨ρ2, yd, h2, s2, R2, r2, a2⟩ => ?_⟩
  split at a2
  · rename_i z
    cases hj : idxS ys z with
    | none => rw [hj] at a2; exact a2.elim
    | some j =>
      rw [hj] at a2
      obtain ⟨h1, h2⟩ := idxS_ok hj
      obtain ⟨p2, vs, ev2, sq, rr⟩ := (q (sy T X) ρ2 H2 rfl).tup_
      cases ev2
      obtain rfl := rr.strs
      obtain rfl := r2.str_
      exact ⟨b, ys, z, j, rfl, rfl, sq.sq, h1, h2, Aft.same (d := .int _) a2 R2 (.int _)⟩
  · exact a2.elim
end
end Lad
end
section
set_option maxRecDepth 100000
set_option maxHeartbeats 2000000
namespace Lad
open PySem L2
theorem wipe_wipe (σ : St) (vs : List Nat) : L2.wipe (L2.wipe σ vs) vs = L2.wipe σ vs := by
  have key : ∀ (ws : List Nat) (τ : St), (∀ i ∈ ws, ∀ y, τ[i]? ≠ some (some y)) → L2.wipe τ ws = τ := by
    intro ws
    induction ws with
    | nil => intro _ _; rfl
    | cons w ws ih =>
      intro τ hτ
      show (L2.wipe τ ws).set w none = τ
      rw [ih τ fun i hi => hτ i (List.mem_cons_of_mem _ hi)]
      apply List.ext_getElem?
      intro n
      by_cases hn : w = n
      · subst hn
        by_cases hl : w < τ.length
        · rw [List.getElem?_set_self hl]
          have := hτ w List.mem_cons_self
          cases q : τ[w]? with
          | none => rw [List.getElem?_eq_none_iff] at q; omega
          | some o =>
            cases o with
            | none => rfl
            | some y => exact absurd q (this y)
        · rw [List.getElem?_eq_none_iff.mpr (by simpa using hl), List.getElem?_eq_none_iff.mpr (by simpa using hl)]
      · rw [List.getElem?_set_ne hn]
  exact key vs _ fun i hi y hy => (wipe_some hy).2 hi
/-- while the list at D is made -/
structure MkL (S : Sy) (ρ1 : Own) (H1 : Hp) (D : Addr) (ρ : Own) (h : Hea) (acc : List Val) (H : Hp) : Prop where
  z : H1 D = none
  nη : D ∉ ρ1.hd
  hh : ρ.hd = D :: ρ1.hd
  g : Go S ρ1 H1 ⟨ρ.nm, ρ1.hd⟩ H
  R : Rel S ρ h H
  at_ : ∃ us, H D = some (.lst us) ∧ Reps S ρ H acc us
  off : Off ρ D
section
variable {S : Sy} {ρ1 ρ ρ' : Own} {H1 H H' : Hp} {D : Addr} {h h' : Hea} {acc : List Val}
theorem MkL.start (R : Rel S ρ1 h H1) (z : H1 D = none) : MkL S ρ1 H1 D (ρ1.hide D) h [] (upd H1 D (.lst [])) :=
  ⟨z, (R.fz z).2, rfl, .side z, R.hideNew z, ⟨[], upd_same, .nil⟩, fun i q => R.free z q⟩
theorem MkL.mv (m : MkL S ρ1 H1 D ρ h acc H) : Mv S ρ1 H1 ρ H := m.g.mvh m.hh m.z
theorem MkL.go (m : MkL S ρ1 H1 D ρ h acc H) (g : Go S ρ H ρ' H') (R : Rel S ρ' h' H') : MkL S ρ1 H1 D ρ' h' acc H' := by
  obtain ⟨us, hD, rA⟩ := m.at_
  refine ⟨m.z, m.nη, g.hd.trans m.hh, m.g.trans (g.reh m.hh), R, ⟨us, g.lst hD m.off, rA.go g⟩, fun i z => ?_⟩
  rcases g.nw i D z with ⟨j, q⟩ | q
  · exact m.off j q
  · rw [hD] at q; cases q
theorem MkL.add (m : MkL S ρ1 H1 D ρ h acc H) {y : Val} {v : V} (r : Rep S ρ H y v) (hl : acc.length < 16777216) :
    ∃ us, H D = some (.lst us) ∧ us.length < sizeLine ∧ MkL S ρ1 H1 D ρ h (acc ++ [y]) (upd H D (.lst (us ++ [v]))) ∧ Mv S ρ H ρ (upd H D (.lst (us ++ [v]))) := by
  obtain ⟨us, hD, rA⟩ := m.at_
  have mD : D ∈ ρ.hd := by rw [m.hh]; exact List.mem_cons_self
  have mv : Mv S ρ H ρ (upd H D (.lst (us ++ [v]))) := .hid mD hD True.intro
  have rl := rA.length
  exact ⟨us, hD, by rw [sizeLine_eq]; omega, ⟨m.z, m.nη, m.hh, m.g.tmp m.z hD, m.R.off m.off mD hD True.intro, ⟨_, upd_same, (rA.app (.one r)).mono mv⟩, m.off⟩, mv⟩
theorem MkL.fin (m : MkL S ρ1 H1 D ρ h acc H) {Q : VK} {W : XK} (a : AftL S ρ1 H1 (.ok acc h) Q W) : Q (.ref D) H := by
  obtain ⟨us, hD, rA⟩ := m.at_
  obtain ⟨k1, k2, k3⟩ := m.R.shown m.hh m.nη m.off hD rA
  exact a ⟨ρ.nm, ρ1.hd⟩ D us H m.g k1 hD ⟨m.off, m.nη⟩ m.z k2 k3
theorem AftL.noI {r : Res Src} {k : Src → Hea → Res (List Val)} {Q : VK} {W : XK} (a : AftL S ρ H ((Lad.noX r).bind k) Q W) :
    ∃ d h1, r = .ok d h1 ∧ AftL S ρ H (k d h1) Q W := by
  cases r with
  | ok d h => exact ⟨d, h, rfl, a⟩
  | exc c d h => exact a.elim
  | stuck => exact a.elim
end
theorem resAssoc {α β γ : Type} (r : Res α) (f : α → Hea → Res β) (g : β → Hea → Res γ) : (r.bind f).bind g = r.bind fun a h => (f a h).bind g := by cases r <;> rfl
def comp2G (it : Nat → Hea → Option (Option Val)) (b : Val → En → Option En) (tt : En → Hea → Res Val) (src1 : En → Hea → Res Src) (own1 : List Nat) (b1 : Val → En → Option En) (tt1 f : En → Hea → Res Val) (e0 : En) : Nat → Nat → List Val → Hea → Res (List Val)
  | 0, _, _, _ => .stuck
  | n + 1, k, acc, h => match it k h with
    | some none => .ok acc h
    | some (some v) => match b v e0 with
      | some e1 => (noX (tt e1 h)).bind fun c h1 => match c with
        | .bl true => (noX (src1 e1 h1)).bind fun s h2 => (compG s.item b1 tt1 f (wipeE e1 own1) s.fuel 0 acc h2).bind fun acc' h3 => comp2G it b tt src1 own1 b1 tt1 f e0 n (k + 1) acc' h3
        | .bl false => comp2G it b tt src1 own1 b1 tt1 f e0 n (k + 1) acc h1
        | _ => .stuck
      | none => .stuck
    | none => .stuck
def lComp2 (own own1 : List Nat) (src : En → Hea → Res Src) (b : Val → En → Option En) (tt : En → Hea → Res Val) (src1 : En → Hea → Res Src) (b1 : Val → En → Option En) (tt1 f : En → Hea → Res Val) : En → Hea → Res (List Val) := fun e h => (src e h).bind fun s h1 => comp2G s.item b tt src1 own1 b1 tt1 f (wipeE e own) s.fuel 0 [] h1
section
variable {T : Tb} {X : Cx} {W : WX} {tg iter tg1 iter1 elt : Expr} {ifs ifs1 : List Expr} {scope : Scope} {own : List (Str × Nat)} {own1 : List Nat} {src src1 : En → Hea → Res Src} {tt tt1 f : En → Hea → Res Val} {g g1 : TG} {b b1 : Val → En → Option En} {pos : Pos}
theorem lc2_imp (ok : GOk (sy T X) (own.map (·.2)) g b) (ok1 : GOk (sy T X) own1 g1 b1) {σ : St} {H : Hp} {Q : VK} (q : tL (sy T X) W (lComp2 (own.map (·.2)) own1 src b tt src1 b1 tt1 f) σ H Q) :
    tLc2 (tI (sy T X) W src) g (tB (tE (sy T X) W0 tt)) (tI (sy T X) W0 src1) g1 (tB (tE (sy T X) W0 tt1)) (tE (sy T X) W0 f) (own.map (·.2)) own1 σ H Q := by
  obtain ⟨ρ, e, h, R, E, a⟩ := q
  refine ⟨ρ, e, h, R, E, (AftL.bindI a).mono fun J H1 ⟨ρ1, d, h1, s, R1, j, a1⟩ => fun D hD => ?_⟩
  have E1 : ER (sy T X) ρ1 H1 e σ := E.go s
  have ew := E1.wipe (own.map (·.2))
  refine ⟨fun k m Hc => ∃ ρ2 h2 acc, MkL (sy T X) ρ1 H1 D ρ2 h2 acc Hc ∧ AftL (sy T X) ρ1 H1 (comp2G d.item b tt src1 own1 b1 tt1 f (wipeE e (own.map (·.2))) m k acc h2) Q (fun c d H' => W c d σ H'),
    ⟨d.fuel, ρ1.hide D, h1, [], .start R1 hD, a1⟩, fun k m Hc w => ?_⟩
  obtain ⟨ρ2, h2, acc, M2, a2⟩ := w
  cases m with
  | zero => exact a2.elim
  | succ m =>
    have jk := j ρ2 Hc h2 M2.mv M2.R k
    unfold comp2G at a2
    cases hit : d.item k h2 with
    | none => rw [hit] at a2; exact a2.elim
    | some o =>
      rw [hit] at a2 jk
      cases o with
      | none => exact .inl ⟨jk, M2.fin a2⟩
      | some v =>
        refine .inr ⟨jk.1, fun Hc => ∃ ρ2 h2 acc, MkL (sy T X) ρ1 H1 D ρ2 h2 acc Hc ∧ AftL (sy T X) ρ1 H1 (comp2G d.item b tt src1 own1 b1 tt1 f (wipeE e (own.map (·.2))) m (k + 1) acc h2) Q (fun c d H' => W c d σ H'),
          fun H' z => ⟨m, Nat.lt_succ_self m, z⟩, fun x H' y => ?_⟩
        obtain ⟨g3, R3, r3⟩ := jk.2 x H' y
        dsimp only at a2
        cases hbv : b v (wipeE e (own.map (·.2))) with
        | none => rw [hbv] at a2; exact a2.elim
        | some e3 =>
          rw [hbv] at a2
          have M3 := M2.go g3 R3
          refine ok ρ2 H' h2 _ _ v x e3 _ R3 (ew.mono M3.mv) r3 hbv fun σ3 E3 w3 => ⟨w3.trans (wipe_wipe _ _), ρ2, e3, h2, R3, E3, ?_⟩
          dsimp only at a2
          obtain ⟨cb, hb1, ht, a3⟩ := a2.noX
          rw [ht]
          refine fun ρ5 v5 H5 s5 R5 r5 => ?_
          have M5 := M3.go s5 R5
          split at a3
          · obtain rfl := r5.bl_
            refine ⟨true, rfl, itT rfl ?_⟩
            obtain ⟨d1, hb2, hs1, a4⟩ := a3.noI
            refine ⟨ρ5, e3, hb1, R5, E3.go s5, ?_⟩
            rw [hs1]
            refine fun ρ6 H6 J1 s6 R6 j1 => ?_
            have M6 := M5.go s6 R6
            have E6 := ((E3.go s5).go s6).wipe own1
            refine ⟨fun jj kk Hc => ∃ ρ7 h7 acc, MkL (sy T X) ρ1 H1 D ρ7 h7 acc Hc ∧ Mv (sy T X) ρ6 H6 ρ7 Hc ∧ AftL (sy T X) ρ1 H1 ((compG d1.item b1 tt1 f (wipeE e3 own1) kk jj acc h7).bind fun acc' h3 => comp2G d.item b tt src1 own1 b1 tt1 f (wipeE e (own.map (·.2))) m (k + 1) acc' h3) Q (fun c d H' => W c d σ H'),
              ⟨d1.fuel, ρ6, hb2, acc, M6, .rfl, a4⟩, fun jj kk Hc w => ?_⟩
            obtain ⟨ρ7, h7, acc7, M7, mv7, a7⟩ := w
            cases kk with
            | zero => exact a7.elim
            | succ kk =>
              have jk1 := j1 ρ7 Hc h7 mv7 M7.R jj
              unfold compG at a7
              cases hit1 : d1.item jj h7 with
              | none => rw [hit1] at a7; exact a7.elim
              | some o =>
                rw [hit1] at a7 jk1
                cases o with
                | none => exact .inl ⟨jk1, ρ7, h7, acc7, M7, a7⟩
                | some v1 =>
                  refine .inr ⟨jk1.1, fun Hc => ∃ ρ7 h7 acc, MkL (sy T X) ρ1 H1 D ρ7 h7 acc Hc ∧ Mv (sy T X) ρ6 H6 ρ7 Hc ∧ AftL (sy T X) ρ1 H1 ((compG d1.item b1 tt1 f (wipeE e3 own1) kk (jj + 1) acc h7).bind fun acc' h3 => comp2G d.item b tt src1 own1 b1 tt1 f (wipeE e (own.map (·.2))) m (k + 1) acc' h3) Q (fun c d H' => W c d σ H'),
                    fun H' z => ⟨kk, Nat.lt_succ_self kk, z⟩, fun x H' y => ?_⟩
                  obtain ⟨g8, R8, r8⟩ := jk1.2 x H' y
                  dsimp only at a7
                  cases hbv1 : b1 v1 (wipeE e3 own1) with
                  | none => rw [hbv1] at a7; exact a7.elim
                  | some e8 =>
                    rw [hbv1] at a7
                    have M8 := M7.go g8 R8
                    have mv8 := mv7.trans g8.mv
                    refine ok1 ρ7 H' h7 _ _ v1 x e8 _ R8 (E6.mono mv8) r8 hbv1 fun σ8 E8 w8 => ⟨w8.trans (wipe_wipe _ _), ρ7, e8, h7, R8, E8, ?_⟩
                    dsimp only at a7
                    rw [resAssoc] at a7
                    obtain ⟨cb1, hb8, ht1, a9⟩ := a7.noX
                    rw [ht1]
                    refine fun ρ9 v9 H9 s9 R9 r9 => ?_
                    have M9 := M8.go s9 R9
                    have mv9 := mv8.trans s9.mv
                    split at a9
                    · obtain rfl := r9.bl_
                      refine ⟨true, rfl, itT rfl ?_⟩
                      rw [resAssoc] at a9
                      obtain ⟨yv, hb10, hf, a10⟩ := a9.noX
                      refine ⟨ρ9, e8, hb8, R9, E8.go s9, ?_⟩
                      rw [hf]
                      refine fun ρ10 v10 H10 s10 R10 r10 => ?_
                      have M10 := M9.go s10 R10
                      split at a10
                      · rename_i hl
                        obtain ⟨us, hD10, hz, M11, mv11⟩ := M10.add r10 hl
                        exact ⟨us, hD10, hz, ρ10, hb10, acc7 ++ [yv], M11, (mv9.trans s10.mv).trans mv11, a10⟩
                      · exact a10.elim
                    · obtain rfl := r9.bl_
                      exact ⟨false, rfl, itF rfl ⟨ρ9, hb8, acc7, M9, mv9, a9⟩⟩
                    · exact a9.elim
          · obtain rfl := r5.bl_
            exact ⟨false, rfl, itF rfl ⟨ρ5, hb1, acc, M5, a3⟩⟩
          · exact a3.elim
theorem sl_comp2 (hc : X.calm = true) (hN : X.N.Nodup) (hi : SI T X W tg iter src) (bk : BlkOk X.N X.env.scope scope own) (hv : ∀ i ∈ own1, i ∈ own.map (·.2))
    (hg : ∀ (s : Shared) (H : Hp) (C : Addr) (cl : List (Str × Addr)) (fp : List Addr), PG (X.blk s H scope (compEnvC scope cl C X.env) fp) tg g)
    (ok : GOk (sy T X) (own.map (·.2)) g b)
    (ht : ∀ (s : Shared) (H : Hp) (C : Addr) (cl : List (Str × Addr)) (fp : List Addr), STs T (X.blk s H scope (compEnvC scope cl C X.env) fp) W0 ifs tt)
    (hi1 : ∀ (s : Shared) (H : Hp) (C : Addr) (cl : List (Str × Addr)) (fp : List Addr), SI T (X.blk s H scope (compEnvC scope cl C X.env) fp) W0 tg1 iter1 src1)
    (hg1 : ∀ (s : Shared) (H : Hp) (C : Addr) (cl : List (Str × Addr)) (fp : List Addr), PG (X.blk s H scope (compEnvC scope cl C X.env) fp) tg1 g1)
    (ok1 : GOk (sy T X) own1 g1 b1)
    (ht1 : ∀ (s : Shared) (H : Hp) (C : Addr) (cl : List (Str × Addr)) (fp : List Addr), STs T (X.blk s H scope (compEnvC scope cl C X.env) fp) W0 ifs1 tt1)
    (he : ∀ (s : Shared) (H : Hp) (C : Addr) (cl : List (Str × Addr)) (fp : List Addr), SE T (X.blk s H scope (compEnvC scope cl C X.env) fp) W0 elt f)
    (hs : ∀ x, foldedSetIterable iter X.env x = pure x := by intro _; rfl) (hs1 : ∀ env x, foldedSetIterable iter1 env x = pure x := by intro _ _; rfl) :
    SL T X W (.ListComp elt [⟨tg, iter, ifs, 0⟩, ⟨tg1, iter1, ifs1, 0⟩] scope pos) (lComp2 (own.map (·.2)) own1 src b tt src1 b1 tt1 f) :=
  (pe_lc2 hc hN hi bk hv hg ht hi1 hg1 ht1 he hs hs1).imp fun σ H Q q => lc2_imp ok ok1 q
end
end Lad
end
section
set_option maxRecDepth 100000
set_option maxHeartbeats 2000000
namespace Lad
open PySem L2
def zipV (xs ys : List Val) : List Val := List.zipWith (fun x y => Val.tup [x, y]) xs ys
def srcZipL (d1 d2 : Val) : Src := ⟨fun k h => match lstOf h d1, lstOf h d2 with
  | some xs, some ys => if k ≤ xs.length ∧ k ≤ ys.length then some (zipV xs ys)[k]? else none
  | _, _ => none, 100000, none, fun _ h => nomatch h⟩
def iZipV (f : En → Hea → Res (List Val)) : En → Hea → Res Src := fun e h => (f e h).bind fun ds h1 => match ds with
  | [.lst xs, .lst ys] => .ok (srcFix (zipV xs ys)) h1
  | [.tup xs, .tup ys] => .ok (srcFix (zipV xs ys)) h1
  | [d1, d2] => if ((lstOf h1 d1).isSome && (lstOf h1 d2).isSome) = true then .ok (srcZipL d1 d2) h1 else .stuck
  | _ => .stuck
section
variable {S : Sy} {H : Hp} {ρ : Own}
theorem zipV_get {xs ys : List Val} {k : Nat} : (zipV xs ys)[k]? = match xs[k]?, ys[k]? with
    | some x, some y => some (.tup [x, y])
    | _, _ => none := by
  unfold zipV
  rw [List.getElem?_zipWith]
  cases xs[k]? <;> cases ys[k]? <;> rfl
end
section
variable {S : Sy} {H : Hp} {ρ : Own}
theorem j_zm {k1 k2 : ZK} {a b : Addr} {xs ys : List Val} {vs us : List V} (s1 : ∀ ρ' H', Mv S ρ H ρ' H' → k1.sq S.K H' a vs) (s2 : ∀ ρ' H', Mv S ρ H ρ' H' → k2.sq S.K H' b us) (r1 : Reps S ρ H xs vs) (r2 : Reps S ρ H ys us) : JOk S ρ H (ItzM S.K k1 k2 a b) (srcFix (zipV xs ys)).item := jfix fun ρ' H' h' g R k hk => by
  have q1 := s1 _ _ g
  have q2 := s2 _ _ g
  have r1' := r1.mono g
  have r2' := r2.mono g
  have hk : k ≤ (zipV xs ys).length := hk
  rw [show (zipV xs ys).length = min xs.length ys.length by unfold zipV; simp] at hk
  rw [zipV_get]
  have ln1 := r1.length
  have ln2 := r2.length
  cases e1 : xs[k]? with
  | none =>
    have := List.getElem?_eq_none_iff.mp e1
    exact ⟨vs, us, q1, q2, by omega, by omega, by omega⟩
  | some x =>
    cases e2 : ys[k]? with
    | none =>
      have := List.getElem?_eq_none_iff.mp e2
      exact ⟨vs, us, q1, q2, by omega, by omega, by omega⟩
    | some y =>
      obtain ⟨v, ev, rv⟩ := r1'.get e1
      obtain ⟨u, eu, ru⟩ := r2'.get e2
      refine ⟨⟨vs, us, v, u, q1, q2, ev, eu⟩, fun z H'' ⟨t, x', y', ob, ez, nt, od, eh, w1, w2⟩ => ?_⟩
      have z1 := w1 vs q1
      have z2 := w2 us q2
      rw [ev] at z1
      rw [eu] at z2
      cases z1
      cases z2
      subst ez eh
      exact ⟨.side nt, R.side nt, .tup (.inl ⟨ob, upd_same, od⟩) (.cons (rv.mono (.side nt)) (.cons (ru.mono (.side nt)) .nil))⟩
end
theorem zip_turnM {a b : Addr} {xs ys : List Val} {vs us : List V} {k : Nat} {ρ' : Own} {H' : Hp} {h' : Hea} (hk : k ≤ xs.length ∧ k ≤ ys.length) (R : Rel S ρ' h' H') (q1 : SqL S.K H' a vs) (q2 : SqL S.K H' b us) (r1' : Reps S ρ' H' xs vs) (r2' : Reps S ρ' H' ys us) :
    match some (zipV xs ys)[k]? with
    | some none => (ItzM S.K .L .L a b).stop k H'
    | some (some d) => (ItzM S.K .L .L a b).go k H' ∧ ∀ x H'', (ItzM S.K .L .L a b).yld k H' x H'' → Go S ρ' H' ρ' H'' ∧ Rel S ρ' h' H'' ∧ Rep S ρ' H'' d x
    | none => True := by
  rw [zipV_get]
  have ln1 := r1'.length
  have ln2 := r2'.length
  cases e1 : xs[k]? with
  | none =>
    have := List.getElem?_eq_none_iff.mp e1
    exact ⟨vs, us, q1, q2, by omega, by omega, by omega⟩
  | some x =>
    cases e2 : ys[k]? with
    | none =>
      have := List.getElem?_eq_none_iff.mp e2
      exact ⟨vs, us, q1, q2, by omega, by omega, by omega⟩
    | some y =>
      obtain ⟨v, ev, rv⟩ := r1'.get e1
      obtain ⟨u, eu, ru⟩ := r2'.get e2
      refine ⟨⟨vs, us, v, u, q1, q2, ev, eu⟩, fun z H'' ⟨t, x', y', ob, ez, nt, od, eh, w1, w2⟩ => ?_⟩
      have z1 := w1 vs q1
      have z2 := w2 us q2
      rw [ev] at z1
      rw [eu] at z2
      cases z1
      cases z2
      subst ez eh
      exact ⟨.side nt, R.side nt, .tup (.inl ⟨ob, upd_same, od⟩) (.cons (rv.mono (.side nt)) (.cons (ru.mono (.side nt)) .nil))⟩
section
variable {T : Tb} {X : Cx} {W : WX} {tg a b : Expr} {g : En → Hea → Res (List Val)} {pos p tpos : Pos} {elts : List Expr} {kk : Nat}
theorem si_zip (hg : Gl X "zip") (hm : X.mg "zip" = none) (ha : SA T X W [a, b] g) (hs : starEach [a, b] X.env = (false, eval a X.env) :: starEach [b] X.env := by rfl) (hpl : (backTo pos (starEach [b] X.env)).any (·.1) = false := by rfl) :
    SI T X W (.Tuple elts kk tpos) (.Call (.Name "zip" p) [a, b] [] pos) (iZipV g) := (pi_or (pi_zm .L .L hg hm ha hs hpl) (pi_zm .T .T hg hm ha hs hpl)).imp fun σ H Q q => by
  obtain ⟨ρ, e, h, R, E, a⟩ := q
  unfold iZipV at a
  by_cases tt : ∃ xs ys h1, g e h = .ok [.tup xs, .tup ys] h1
  · obtain ⟨xs, ys, h1, hg⟩ := tt
    refine .inr ⟨ρ, e, h, R, E, ?_⟩
    rw [hg] at a ⊢
    intro ρ1 vs H1 s R1 r
    match vs, r with
    | [v1, v2], .cons r1 (.cons r2 .nil) =>
      obtain ⟨p1, us1, rfl, sq1, rr1⟩ := r1.tup_
      obtain ⟨p2, us2, rfl, sq2, rr2⟩ := r2.tup_
      exact ⟨_, _, _, _, rfl, sq1.sq, sq2.sq, (AftI.later (r := .ok (srcFix (zipV xs ys)) h1) a s) ρ1 H1 _ .rfl R1 (j_zm (fun _ _ m => m.kp.1 _ _ sq1.sq) (fun _ _ m => m.kp.1 _ _ sq2.sq) rr1 rr2)⟩
  · refine .inl ⟨ρ, e, h, R, E, ?_⟩
    cases hg : g e h with
    | ok ds h1 =>
      rw [hg] at a tt
      intro ρ1 v H1 s R1 r
      have a1 := AftI.later a s
      dsimp only [Res.bind] at a1
      split at a1
      · match v, r with
        | [v1, v2], .cons r1 (.cons r2 .nil) =>
          cases r1 with
          | lst f1 hl1 rr1 =>
            cases r2 with
            | lst f2 hl2 rr2 =>
              exact ⟨_, _, _, _, rfl, .inl (.inl hl1), .inl (.inl hl2), a1 ρ1 H1 _ .rfl R1 (j_zm (fun _ _ m => .inl (.inl (m.lst f1 hl1))) (fun _ _ m => .inl (.inl (m.lst f2 hl2))) rr1 rr2)⟩
      · exact absurd ⟨_, _, _, rfl⟩ tt
      · rename_i d1 d2 _ _
        split at a1
        · rename_i hc
          obtain ⟨c1, c2⟩ := Bool.and_eq_true_iff.mp hc
          obtain ⟨xs, hx⟩ := Option.isSome_iff_exists.mp c1
          obtain ⟨ys, hy⟩ := Option.isSome_iff_exists.mp c2
          match v, r with
          | [v1, v2], .cons r1 (.cons r2 .nil) =>
            obtain ⟨p1, us1, e1, sq1, rr1⟩ := R1.lstV r1 hx
            obtain ⟨p2, us2, e2, sq2, rr2⟩ := R1.lstV r2 hy
            refine ⟨p1, p2, us1, us2, by rw [e1, e2], sq1, sq2, a1 ρ1 H1 _ .rfl R1 fun ρ' H' h' m R' k => ?_⟩
            show match (match lstOf h' d1, lstOf h' d2 with | some xs, some ys => if k ≤ xs.length ∧ k ≤ ys.length then some (zipV xs ys)[k]? else none | _, _ => none) with | some none => _ | some (some d) => _ | none => _
            cases hx' : lstOf h' d1 with
            | none => exact True.intro
            | some xs' =>
              cases hy' : lstOf h' d2 with
              | none => exact True.intro
              | some ys' =>
                dsimp only
                by_cases hk : k ≤ xs'.length ∧ k ≤ ys'.length
                · rw [if_pos hk]
                  obtain ⟨q1, ws1, z1, sq1', rr1'⟩ := R'.lstV (r1.mono m) hx'
                  obtain ⟨q2, ws2, z2, sq2', rr2'⟩ := R'.lstV (r2.mono m) hy'
                  rw [e1] at z1
                  rw [e2] at z2
                  cases z1
                  cases z2
                  exact zip_turnM hk R' sq1' sq2' rr1' rr2'
                · rw [if_neg hk]
                  exact True.intro
        · exact a1.elim
      · exact a1.elim
    | _ => 
      rw [hg] at a
      exact a
end
end Lad
end
section
set_option maxRecDepth 100000
set_option maxHeartbeats 2000000
namespace Lad
open PySem L2
/-- while the thing at D is hidden -/
structure Hid (S : Sy) (ρ1 : Own) (H1 : Hp) (D : Addr) (o : HO) (ρ : Own) (h : Hea) (H : Hp) : Prop where
  z : H1 D = none
  nη : D ∉ ρ1.hd
  hh : ρ.hd = D :: ρ1.hd
  g : Go S ρ1 H1 ⟨ρ.nm, ρ1.hd⟩ H
  R : Rel S ρ h H
  at_ : H D = some o
  off : Off ρ D
section
variable {S : Sy} {ρ1 ρ ρ' : Own} {H1 H H' : Hp} {D : Addr} {h h' : Hea} {o o' : HO}
theorem Hid.start (R : Rel S ρ1 h H1) (z : H1 D = none) : Hid S ρ1 H1 D o (ρ1.hide D) h (upd H1 D o) :=
  ⟨z, (R.fz z).2, rfl, .side z, R.hideNew z, upd_same, fun i q => R.free z q⟩
theorem Hid.mv (m : Hid S ρ1 H1 D o ρ h H) : Mv S ρ1 H1 ρ H := m.g.mvh m.hh m.z
theorem Hid.go (m : Hid S ρ1 H1 D o ρ h H) (g : Go S ρ H ρ' H') (R : Rel S ρ' h' H') : Hid S ρ1 H1 D o ρ' h' H' := by
  refine ⟨m.z, m.nη, g.hd.trans m.hh, m.g.trans (g.reh m.hh), R, (g.fr D _ m.at_ m.off).2 (by rw [m.hh]; exact List.mem_cons_self), fun i z => ?_⟩
  rcases g.nw i D z with ⟨j, q⟩ | q
  · exact m.off j q
  · rw [m.at_] at q; cases q
/-- it gets what it holds -/
theorem Hid.put (m : Hid S ρ1 H1 D o ρ h H) (c : Ch o) : Hid S ρ1 H1 D o' ρ h (upd H D o') ∧ Mv S ρ H ρ (upd H D o') := by
  have mD : D ∈ ρ.hd := by rw [m.hh]; exact List.mem_cons_self
  refine ⟨⟨m.z, m.nη, m.hh, ?_, m.R.off m.off mD m.at_ c, upd_same, m.off⟩, .hid mD m.at_ c⟩
  exact ⟨m.g.sub, m.g.kp.trans (.put m.at_ c), fun a o q n => by rw [upd_ne (ne_of_none q m.z)]; exact m.g.fr a o q n, m.g.nw, m.g.hd⟩
/-- it is made: frozen -/
theorem Hid.out (m : Hid S ρ1 H1 D o ρ h H) : Mv S ρ H ⟨ρ.nm, ρ1.hd⟩ H ∧ Rel S ⟨ρ.nm, ρ1.hd⟩ h H ∧ Fz ⟨ρ.nm, ρ1.hd⟩ D := by
  have m1 : Mv S ρ H ⟨ρ.nm, ρ1.hd⟩ H := ⟨fun _ _ h => h, .rfl, fun a o e f => ⟨⟨o, e, .rfl⟩, f.1, fun q => f.2 (by rw [m.hh]; exact List.mem_cons_of_mem _ q)⟩⟩
  have hi : ∀ a, a ∈ ρ1.hd → (∃ u, H a = some u) ∧ Off (⟨ρ.nm, ρ1.hd⟩ : Own) a := fun a q => m.R.hid a (by rw [m.hh]; exact List.mem_cons_of_mem _ q)
  exact ⟨m1, ⟨m.R.len, m.R.inj, fun i o a e1 e2 => (m.R.ob i o a e1 e2).mono m1 rfl, hi⟩, m.off, m.nη⟩
/-- it is made: held -/
theorem Hid.held (m : Hid S ρ1 H1 D o ρ h H) {ob : Ob} (q : ObR S (Own.add ⟨ρ.nm, ρ1.hd⟩ D) H ob D) : Rel S (Own.add ⟨ρ.nm, ρ1.hd⟩ D) (h ++ [ob]) H := by
  have m1 := m.out.1
  have m2 : Mv S ρ H (Own.add ⟨ρ.nm, ρ1.hd⟩ D) H := ⟨Sub.app (ρ := ⟨ρ.nm, ρ1.hd⟩), .rfl, fun a o e f => ⟨⟨o, e, .rfl⟩, (m1.fz a o e f).2.add fun z => f.2 (by rw [m.hh, z]; exact List.mem_cons_self)⟩⟩
  have hi : ∀ a, a ∈ ρ1.hd → (∃ u, H a = some u) ∧ Off (⟨ρ.nm, ρ1.hd⟩ : Own) a := fun a q => m.R.hid a (by rw [m.hh]; exact List.mem_cons_of_mem _ q)
  exact Rel.grow (ρ := ⟨ρ.nm, ρ1.hd⟩) m.R.len m.R.inj m.off (fun i o a e1 e2 => (m.R.ob i o a e1 e2).mono m2 rfl) q hi m.nη
theorem Hid.mvHeld (m : Hid S ρ1 H1 D o ρ h H) : Mv S ρ H (Own.add ⟨ρ.nm, ρ1.hd⟩ D) H := 
  ⟨Sub.app (ρ := ⟨ρ.nm, ρ1.hd⟩), .rfl, fun a o e f => ⟨⟨o, e, .rfl⟩, (m.out.1.fz a o e f).2.add fun z => f.2 (by rw [m.hh, z]; exact List.mem_cons_self)⟩⟩
end
abbrev FF := (En → Hea → Res Val) × (En → Hea → Res Val)
def dPrs : List FF → En → Hea → Res (List (Val × Val))
  | [], _, h => .ok [] h
  | p :: r, e, h => (noX (p.1 e h)).bind fun x h1 => (noX (p.2 e h1)).bind fun y h2 => (dPrs r e h2).bind fun l h3 => .ok ((x, y) :: l) h3
def mergeKv (acc : List (Val × Val)) : List (Val × Val) → List (Val × Val)
  | [] => acc
  | p :: r => mergeKv (putKv p.1 p.2 acc) r
inductive Prs (S : Sy) (ρ : Own) (H : Hp) : List (Val × Val) → List (V × V) → Prop where
  | nil : Prs S ρ H [] []
  | cons {x y : Val} {u v : V} {ds : List (Val × Val)} {vs : List (V × V)} : Rep S ρ H x u → Rep S ρ H y v → Prs S ρ H ds vs → Prs S ρ H ((x, y) :: ds) ((u, v) :: vs)
theorem noX_ok {α : Type} {r : Res α} {a : α} {h : Hea} (e : noX r = .ok a h) : r = .ok a h := by
  cases r <;> cases e
  rfl
theorem bind_ok {α β : Type} {r : Res α} {k : α → Hea → Res β} {b : β} {h : Hea} (e : r.bind k = .ok b h) : ∃ a h1, r = .ok a h1 ∧ k a h1 = .ok b h := by
  cases r with
  | ok a h1 => exact ⟨a, h1, rfl, e⟩
  | exc c d h1 => cases e
  | stuck => cases e
section
variable {S : Sy} {W : WX}
theorem pairs_ok {e : En} {σ : St} : ∀ (fs : List FF) {h h' : Hea} {l : List (Val × Val)} {ρ : Own} {H : Hp} {Q : List (V × V) → Hp → Prop}, dPrs fs e h = .ok l h' → Rel S ρ h H → ER S ρ H e σ → (∀ ρ' ps H', Go S ρ H ρ' H' → Rel S ρ' h' H' → Prs S ρ' H' l ps → Q ps H') →
    tPairs (fs.map fun p => (tE S W p.1, tE S W p.2)) σ H Q
  | [], h, h', l, ρ, H, Q, q, R, E, a => by
    cases q
    exact a ρ [] H .rfl R .nil
  | p :: fs, h, h', l, ρ, H, Q, q, R, E, a => by
    unfold dPrs at q
    obtain ⟨x, h1, e1, q⟩ := bind_ok q
    obtain ⟨y, h2, e2, q⟩ := bind_ok q
    obtain ⟨l', h3, e3, q⟩ := bind_ok q
    cases q
    show tE S W p.1 σ H _
    refine ⟨ρ, e, h, R, E, ?_⟩
    rw [noX_ok e1]
    refine fun ρ1 u H1 s1 R1 r1 => ⟨ρ1, e, h1, R1, E.go s1, ?_⟩
    rw [noX_ok e2]
    refine fun ρ2 v H2 s2 R2 r2 => pairs_ok fs e3 R2 ((E.go s1).go s2) fun ρ3 ps H3 s3 R3 r3 => ?_
    exact a ρ3 _ H3 ((s1.trans s2).trans s3) R3 (.cons ((r1.go s2).go s3) (r2.go s3) r3)
theorem KvR.merge {ρ : Own} {H : Hp} : ∀ {l acc : List (Val × Val)} {kvs as : List (Key × V)}, KvR S ρ H kvK acc as → KvR S ρ H kvK l kvs → KvR S ρ H kvK (mergeKv acc l) (mergeK as kvs)
  | _, _, _, _, q, .nil => q
  | _, _, _, _, q, .cons r t => (q.put r).merge t
theorem Aft.bindP {ρ : Own} {H : Hp} {r : Res (List (Val × Val))} {k : List (Val × Val) → Hea → Res Val} {Q : VK} {X : XK} (n : ∀ c d h, r ≠ .exc c d h) (a : Aft S ρ H (r.bind k) Q X) : ∃ l h1, r = .ok l h1 ∧ Aft S ρ H (k l h1) Q X := by
  cases r with
  | ok l h1 => exact ⟨l, h1, rfl, a⟩
  | exc c d h1 => exact absurd rfl (n c d h1)
  | stuck => exact a.elim
theorem dPrs_no : ∀ (fs : List FF) (e : En) (h : Hea) c d g, dPrs fs e h ≠ .exc c d g
  | [], e, h, c, d, g => by intro q; cases q
  | p :: fs, e, h, c, d, g => by
    intro q
    unfold dPrs at q
    cases e1 : p.1 e h with
    | ok x h1 =>
      rw [e1] at q
      change ((noX (p.2 e h1)).bind _) = _ at q
      cases e2 : p.2 e h1 with
      | ok y h2 =>
        rw [e2] at q
        change ((dPrs fs e h2).bind _) = _ at q
        cases e3 : dPrs fs e h2 with
        | ok l h3 => rw [e3] at q; cases q
        | exc c d h3 => exact dPrs_no fs e h2 c d h3 e3
        | stuck => rw [e3] at q; cases q
      | exc c d h2 => rw [e2] at q; cases q
      | stuck => rw [e2] at q; cases q
    | exc c d h2 => rw [e1] at q; cases q
    | stuck => rw [e1] at q; cases q
end
section
variable {T : Tb} {X : Cx} {W : WX} {pos : Pos} {keys : List (Option Expr)} {values : List Expr} {fs : List FF}
abbrev SPs (T : Tb) (X : Cx) (W : WX) (pos : Pos) (keys : List (Option Expr)) (values : List Expr) (fs : List FF) : Prop := PPs X pos keys values (fs.map fun p => (tE (sy T X) W p.1, tE (sy T X) W p.2))
theorem sp_nil : SPs T X W pos [] [] [] := pps_nil
theorem sp_cons {k v : Expr} {f1 f2 : En → Hea → Res Val} (hk : SE T X W k f1) (hv : SE T X W v f2) (hr : SPs T X W pos keys values fs) : SPs T X W pos (some k :: keys) (v :: values) ((f1, f2) :: fs) := pps_cons hk hv hr
end
end Lad
end
section
set_option maxRecDepth 100000
set_option maxHeartbeats 2000000
namespace Lad
open PySem L2
def pick {α : Type} (is : List Nat) (l : List α) : List α := is.filterMap (l[·]?)
theorem Vals.pick {vs : List V} {us : List Value} (r : Vals vs us) (is : List Nat) : Vals (Lad.pick is vs) (Lad.pick is us) := by
  unfold Lad.pick
  induction is with
  | nil => exact .nil
  | cons i is ih =>
    rw [List.filterMap_cons, List.filterMap_cons]
    cases e : vs[i]? with
    | none =>
      have : us[i]? = none := by
        rw [List.getElem?_eq_none_iff] at e ⊢
        rw [← r.length]; exact e
      rw [this]
      exact ih
    | some v =>
      obtain ⟨u, hu, ru⟩ := r.get e
      rw [hu]
      exact .cons ru ih
theorem Reps.pick {S : Sy} {ρ : Own} {H : Hp} {vs : List V} {us : List Val} (r : Reps S ρ H us vs) (is : List Nat) : Reps S ρ H (Lad.pick is us) (Lad.pick is vs) := by
  unfold Lad.pick
  induction is with
  | nil => exact .nil
  | cons i is ih =>
    rw [List.filterMap_cons, List.filterMap_cons]
    cases e : us[i]? with
    | none =>
      have : vs[i]? = none := by
        rw [List.getElem?_eq_none_iff] at e ⊢
        rw [← r.length]; exact e
      rw [this]
      exact ih
    | some v =>
      obtain ⟨u, hu, ru⟩ := r.get e
      rw [hu]
      exact .cons ru ih
section
variable {X : Cx} {CX : CXT} {k n : Nat} {f C : Addr} {fd : FuncData} {ps ks : List Str} {sp : Sp} {E : St → XK} {x : Str} {p pos : Pos} {e : Expr} {es : List Expr} {kws : List Keyword} {t tk : TA} {g : List Value → List Value → List Value} {gV : List V → List V → List V}
def tMkKS (C : Addr) (n m : Nat) (sp : Sp) (gV : List V → List V → List V) (E : St → XK) (t tk : TA) : TE := fun σ H Q => t σ H fun vs H1 => tk σ H1 fun zs H2 => vs.length = n ∧ zs.length = m ∧ ∀ x dx, H2 x = none → H2 dx = none → dx ≠ x →
  sp (gV (.ref x :: vs) zs) (upd (upd H2 dx (.own x)) x (.ins C dx [])) (fun v H3 => v = .non ∧ Q (.ref x) H3) (E σ)
theorem run_mkKS {pins : List (Addr × Obj)} {σ : St} {H : Hp} {s : Shared} {Q : VK} {us ws : List Value} {vs zs : List V} (M : Mk X.K C f) (F : FnOk X.prog X.w X.K X.mg X.base CX k f fd ps sp) (hr : Room (k + 1) X.A) (hb : KBn X.K fd ps (n + 1) ks g gV) (hx : PassesAt CX X σ (E σ))
    (I : Inv X pins σ H s) (r : Vals vs us) (rz : Vals zs ws) (l1 : vs.length = n) (l2 : zs.length = ks.length)
    (w : ∀ x dx, H x = none → H dx = none → dx ≠ x → sp (gV (.ref x :: vs) zs) (upd (upd H dx (.own x)) x (.ins C dx [])) (fun v H2 => v = .non ∧ Q (.ref x) H2) (E σ)) :
    wpAny (model X.prog X.w) X.A (call (.ref C) us (ks.zip ws)) (EP X pins σ Q) X.xe s := by
  have at0 := I.hok.fresh (Nat.le_refl s.heap.objs.size)
  have at1 := I.hok.fresh (Nat.le_succ s.heap.objs.size)
  have w1 := w (s.heap.objs.size + 1) s.heap.objs.size at1 at0 (Nat.ne_of_lt (Nat.lt_succ_self _))
  have J := Inv.made (C := C) I
  have rs : Vals (V.ref (s.heap.objs.size + 1) :: vs) (Value.ref (s.heap.objs.size + 1) :: us) := .cons rfl r
  have n1 : (Value.ref (s.heap.objs.size + 1) :: us).length = n + 1 := by rw [List.length_cons, ← r.length, l1]
  have bind := hb.to _ (Value.ref (s.heap.objs.size + 1) :: us) ws J.kIn n1 (rz.length.symm.trans l2)
  have body := F.run _ X.stack _ _ ⟨Value.ref (s.heap.objs.size + 1) :: us, ks.zip ws⟩ (g (Value.ref (s.heap.objs.size + 1) :: us) ws) _ _ (E σ) (hr.make C us (ks.zip ws)) (J.env0.make C us (ks.zip ws)) bind (hb.rel rs rz) w1
  apply wpAny_call
  refine make_map (f := f) I.kIn M.makes M.init (beq_iff_eq.mp M.fn) (codeAny_mono body ?_)
  intro res s' back
  match res, back with
  | .error er, back => exact hx pins _ _ er s' J back
  | .ok (.ret u), back =>
    obtain ⟨v, H', I3, rv, ev, w3⟩ := J.after back
    subst ev
    exact ⟨rv, V.ref (s.heap.objs.size + 1), H', I3, rfl, w3⟩
  | .ok .next, back => exact False.elim back
  | .ok .brk, back => exact False.elim back
  | .ok .cont, back => exact False.elim back
theorem pe_mkKS (M : Mk X.K C f) (F : FnOk X.prog X.w X.K X.mg X.base CX k f fd ps sp) (hr : Room (k + 1) X.A) (hg : Gl X x) (hm : X.mg x = some (.ref C)) (hb : KBn X.K fd ps (n + 1) ks g gV) (hx : ∀ σ, PassesAt CX X σ (E σ)) (ha : PA X (e :: es) t) (hkw : PK X kws tk)
    (hall : (backToKw pos (keywordEach kws X.env)).all (·.1.isSome) = true := by rfl) (hks : (backToKw pos (keywordEach kws X.env)).filterMap (·.1) = ks := by rfl) (hdb : (x == ("__debug__" : Str)) = false := by decide)
    (he : starEach (e :: es) X.env = (false, eval e X.env) :: starEach es X.env := by rfl) (hpl : ((backTo pos (starEach (e :: es) X.env)).any (·.1) || (backToKw pos (keywordEach kws X.env)).any (·.1.isNone)) = false := by rfl) :
    PE X (.Call (.Name x p) (e :: es) kws pos) (tMkKS C n ks.length sp gV E t tk) := by
  refine ⟨?_⟩
  intro pins s σ H Q I hw
  refine wpAny_Call_Name_kw (ld_glob I hg hm ?_ hdb)
  have given := ha.run pos pins s σ H _ I hw
  refine PySem.W.callWith_KW (h₀ := X.base) I.ok.mod.kin M.kp hall (thn given ?_) hpl he
  rintro us s1 ⟨vs, H1, I1, r, q⟩
  have named := hkw.run pos pins s1 σ H1 _ I1 q
  refine thn named ?_
  rintro ws s2 ⟨zs, H2, I2, rz, l1, l2, q2⟩
  refine ⟨I2.kIn, ?_⟩
  rw [hks]
  exact run_mkKS M F hr hb (hx σ) I2 r rz l1 l2 q2
end
/-- the values of keywords -/
abbrev SK (T : Tb) (X : Cx) (W : WX) (kws : List Keyword) (f : En → Hea → Res (List Val)) : Prop := PK X kws (tA (sy T X) W f)
section
variable {T : Tb} {X : Cx} {W : WX} {x : Str} {f : Addr} {fd : FuncData} {ps ks : List Str} {k c n : Nat} {cf : List Val → Hea → Res Val} {e : Expr} {es : List Expr} {kws : List Keyword} {g gk : En → Hea → Res (List Val)} {fe : En → Hea → Res Val} {p pos kpos : Pos} {nm : Option Str} {is : List Nat} {gg : List Value → List Value → List Value}
theorem _root_.L2.PK.imp {t t' : TA} (p : PK X kws t) (h : ∀ σ H Q, t' σ H Q → t σ H Q) : PK X kws t' := ⟨fun pos pins s σ H Q I q => p.run pos pins s σ H Q I (h σ H Q q)⟩
theorem sk_nil : SK T X W [] aNil := pk_nil.imp fun σ H Q q => by
  obtain ⟨ρ, e, h, R, E, a⟩ := q
  exact a ρ [] H .rfl R .nil
theorem sk_cons (ha : SE T X W e fe) (hr : SK T X W kws gk) : SK T X W (⟨nm, e, kpos⟩ :: kws) (aCons fe gk) := (pk_cons ha hr).imp fun σ H Q q => by
  obtain ⟨ρ, e, h, R, E, a⟩ := q
  refine ⟨ρ, e, h, R, E, (AftA.bind1 a).mono fun v H1 ⟨ρ1, d, h1, s, R1, r, a1⟩ => ⟨ρ1, e, h1, R1, E.go s, (AftA.bind2 a1).mono fun vs H2 ⟨ρ2, ds, h2, s2, R2, r2, a2⟩ => ?_⟩⟩
  exact a2 ρ2 (v :: vs) H2 .rfl R2 (.cons (r.go s2) r2)
end
end Lad
end
section
set_option maxRecDepth 100000
set_option maxHeartbeats 2000000
namespace Lad
open PySem L2
def setAny (h : Hea) (o i v : Val) : Option Hea := match setIx h o i v with
  | some h' => some h'
  | none => setD h o i v
def tSetS (S : Sy) : TSet := fun o i v H K => ∃ ρ h od id vd h', Rel S ρ h H ∧ Rep S ρ H od o ∧ Rep S ρ H id i ∧ Rep S ρ H vd v ∧ setAny h od id vd = some h' ∧ ∀ ρ' H', Go S ρ H ρ' H' → Rel S ρ' h' H' → K H'
section
variable {T : Tb} {X : Cx} {W : WX}
theorem setIx_inv {h h' : Hea} {o i v : Val} (e : setIx h o i v = some h') : ∃ p k xs j, o = .ref p ∧ i = .int k ∧ h[p]? = some (.lst xs) ∧ ixN xs.length k = some j ∧ h' = h.set p (.lst (xs.set j v)) := by
  unfold setIx at e
  split at e
  · split at e
    · rename_i p k xs hx
      split at e
      · rename_i j hj
        cases e
        exact ⟨_, _, _, _, rfl, rfl, hx, hj, rfl⟩
      · cases e
    · cases e
  · cases e
theorem set_any (hu : X.A.units + 20 < cLine) : PSet X (tSetS (sy T X)) := by
  intro pins s σ H o i v ov iv u Q I ro ri rv q
  obtain ⟨ρ, h, od, id, vd, h', R, r1, r2, r3, e, k⟩ := q
  unfold setAny at e
  split at e
  · rename_i h2 e2
    cases e
    obtain ⟨p, n, xs, j, rfl, rfl, hx, hj, rfl⟩ := setIx_inv e2
    obtain ⟨a, rfl, ep⟩ := r1.ref_
    obtain rfl := r2.int_
    have ob := R.ob _ _ _ hx ep
    cases ob with
    | @lst _ vs _ hl hr =>
      refine set_list pins s σ H _ _ v ov iv u Q I ro ri rv ⟨a, _, _, j, rfl, rfl, hl, by rw [← hr.length]; exact hj, ?_⟩
      have m : Mv (sy T X) ρ H ρ (upd H a (.lst (List.set vs j v))) := .put ep hl True.intro
      exact k ρ _ (.put ep hl True.intro) (R.put (o := .lst (List.set vs j v)) (ob := .lst (xs.set j vd)) ep hl True.intro (.lst upd_same ((hr.set r3 j).mono m)))
  · obtain ⟨p, H', rfl, dp, g4, R4⟩ := setD_dp R r1 r2 r3 e
    obtain rfl : ov = Value.ref p := ro
    exact g_setItem hu I dp ri rv fun s' I' => ⟨_, I', k ρ _ g4 R4⟩
def putAll : List FF → List Val → En → Hea → Res Val
  | [], [], _, h => .ok .non h
  | p :: r, v :: vs, e, h => (p.1 e h).bind fun o h1 => (p.2 e h1).bind fun i h2 => match setAny h2 o i v with
    | some h3 => putAll r vs e h3
    | none => .stuck
  | _, _, _, _ => .stuck
def sPutT (fs : List FF) (f : En → Hea → Res Val) : En → Hea → SRes := fun e h => ofR ((f e h).bind fun d h1 => match d with
  | .tup ds => if ds.length = fs.length then putAll fs ds e h1 else .stuck
  | _ => .stuck) e fun _ h2 => .nx e h2
def gsSubs (S : Sy) (W : WX) : List FF → TGs
  | [] => gNil
  | p :: r => gCons (gSub (tE S W p.1) (tE S W p.2) (tSetS S)) (gsSubs S W r)
theorem putAll_ok {e : En} {σ : St} {Q : Hp → Prop} : ∀ (fs : List FF) {ds : List Val} {vs : List V} {h : Hea} {ρ : Own} {H : Hp}, Rel (sy T X) ρ h H → ER (sy T X) ρ H e σ → Reps (sy T X) ρ H ds vs → Aft (sy T X) ρ H (putAll fs ds e h) (fun _ H' => Q H') (fun c d H' => W c d σ H') →
    gsSubs (sy T X) W fs vs σ H (fun σ' H' => σ' = σ ∧ Q H')
  | [], [], [], h, ρ, H, R, E, .nil, a => ⟨rfl, rfl, a ρ .non H .rfl R .non⟩
  | [], d :: ds, v :: vs, h, ρ, H, R, E, .cons _ _, a => a.elim
  | p :: fs, [], [], h, ρ, H, R, E, .nil, a => a.elim
  | p :: fs, d :: ds, v :: vs, h, ρ, H, R, E, .cons r t, a => by
    unfold putAll at a
    refine ⟨v, vs, rfl, ρ, e, h, R, E, a.bind.mono fun ov H1 ⟨ρ1, od, h1, s1, R1, r1, a1⟩ => ⟨ρ1, e, h1, R1, E.go s1, a1.bind.mono fun iv H2 ⟨ρ2, id, h2, s2, R2, r2, a2⟩ => ?_⟩⟩
    split at a2
    · rename_i h3 e3
      refine ⟨ρ2, h2, od, id, d, h3, R2, r1.go s2, r2, (r.go s1).go s2, e3, fun ρ3 H3 s3 R3 => ?_⟩
      exact putAll_ok fs R3 (((E.go s1).go s2).go s3) (((t.go s1).go s2).go s3) (a2.later s3)
    · exact a2.elim
theorem st_putT {a : Expr} {f : En → Hea → Res Val} {es : List Expr} {fs : List FF} {kt : Nat} {tp pos : Pos} (hc : X.calm = true) (hg : PGs X es (gsSubs (sy T X) W fs)) (ha : SE T X W a f)
    (hn : (assignEach es X.env).length = fs.length := by rfl) (hst : (assignEach es X.env).findIdx? (·.1) = none := by rfl)
    (hs : swapsWithSole [.Tuple es kt tp] a pos.line X.env = pure false := by rfl) (hw : swappedStores [.Tuple es kt tp] a X.env = pure none := by rfl)
    (h1 : (assignEach [.Tuple es kt tp] X.env).map (·.2) = [assign (.Tuple es kt tp) X.env] := by rfl) : SSt T X W (.Assign [.Tuple es kt tp] a pos) (sPutT fs f) :=
  (ps_asg ha (pg_tup hc hg hn hst) hs hw h1).imp fun D σ H q => by
    obtain ⟨ρ, e, h, R, E, a⟩ := q
    unfold sPutT at a
    have a := (AftS.ofR a E).bind
    refine ⟨ρ, e, h, R, E, a.mono fun v H1 ⟨ρ1, d, h1, s, R1, r1, a1⟩ => ?_⟩
    split at a1
    · split at a1
      · rename_i hl
        obtain ⟨p, us, rfl, sq, rr⟩ := r1.tup_
        refine ⟨p, us, rfl, sq.sq, by rw [← rr.length]; exact hl, ?_⟩
        have b := putAll_ok (Q := fun H' => D.nx σ H') (W := W) fs R1 (E.go s) rr (a1.mono fun v H' ⟨ρ5, d5, h5, s5, R5, r5, E5, a5⟩ => a5 ρ5 σ _ .rfl R5 E5)
        revert b
        generalize hQ : (fun (σ' : St) (H' : Hp) => σ' = σ ∧ D.nx σ H') = Q'
        intro b
        have key : ∀ (fs : List FF) (us : List V) (τ : St) (H : Hp) (A B : St → Hp → Prop), (∀ σ' H', A σ' H' → B σ' H') → gsSubs (sy T X) W fs us τ H A → gsSubs (sy T X) W fs us τ H B := by
          intro fs
          induction fs with
          | nil => intro us τ H A B hAB ⟨e, q⟩; exact ⟨e, hAB _ _ q⟩
          | cons p fs ih =>
            intro us τ H A B hAB ⟨v, vs, e, ρ, en, h, R, E, a⟩
            refine ⟨v, vs, e, ρ, en, h, R, E, a.mono fun ov H1 ⟨ρ1, en1, h1, R1, E1, a1⟩ => ⟨ρ1, en1, h1, R1, E1, a1.mono fun iv H2 q => ?_⟩⟩
            obtain ⟨ρ, h, od, id, vd, h', R, r1, r2, r3, e, k⟩ := q
            exact ⟨ρ, h, od, id, vd, h', R, r1, r2, r3, e, fun ρ' H' g R' => ih _ _ _ _ _ hAB (k ρ' H' g R')⟩
        refine key fs us σ H1 Q' D.nx (fun σ' H' q => ?_) b
        rw [← hQ] at q
        obtain ⟨rfl, q⟩ := q
        exact q
      · exact a1.elim
    · exact a1.elim
end
end Lad
end
section
set_option maxRecDepth 100000
set_option maxHeartbeats 2000000
namespace Lad
open PySem L2 PySem.Spec PyProof.Rows
abbrev TSu := Addr → Value → Option Addr → TS
/-- the ends with n gone -/
def Ends.less (i : Nat) (D : Ends) : Ends := ⟨fun τ G => D.nx (τ.set i none) G, D.rt, fun τ G => D.bk (τ.set i none) G, fun τ G => D.ct (τ.set i none) G⟩
def wAsM (K : PySem.W.Frag) (i : Nat) (Wo : WX) (D : Ends) : List (Value × TSu) → WX
  | [] => Wo
  | q :: r => fun cl dd τ G => ∃ y, PySem.W.exmOne K cl q.1 = some y ∧ (y = true → ∀ b, G b = none → q.2 b cl dd (Ends.less i D) (τ.set i (some (.ref b))) G) ∧ (y = false → wAsM K i Wo D r cl dd τ G)
inductive Clauses (X : Cx) (n : Str) : List ExceptHandler → List (Value × TSu) → Prop
  | nil : Clauses X n [] []
  | cons {x : Str} {cv : Value} {ts : TSu} {s0 : Stmt} {ss : List Stmt} {p1 p2 : Pos} {hl : List ExceptHandler} {l : List (Value × TSu)} (nc : Names X x cv)
      (su : ∀ (b : Addr) (ob : Obj) (cl : Value) (dd : Option Addr) (pn : List (Addr × Obj)), Zc cl dd ob → (∃ vs, ob.data = .fields vs) → PSs (X.suite b ((b, ob) :: pn)) (s0 :: ss) (ts b cl dd)) (r : Clauses X n hl l) :
      Clauses X n (.ExceptHandler (some (.Name x p1)) (some n) (s0 :: ss) p2 :: hl) ((cv, ts) :: l)
def sTryM (cl : List ((Nat → Option Bool) × (En → Hea → SRes))) (i : Nat) (fb : En → Hea → SRes) : En → Hea → SRes := fun e h => match fb e h with
  | .exc c d e1 h1 => tryMs cl i c d e1 h1
  | r => r
where tryMs : List ((Nat → Option Bool) × (En → Hea → SRes)) → Nat → Nat → Val → En → Hea → SRes
  | [], _, c, d, e1, h1 => .exc c d e1 h1
  | q :: r, i, c, d, e1, h1 => match q.1 c with
    | some true => suiteEnd i h1 (q.2 (e1.set i (some (.exn c d))) h1)
    | some false => tryMs r i c d e1 h1
    | none => .stuck
/-- clauses with their suites derived -/
inductive SCl (T : Tb) (X : Cx) (n : Str) : List ExceptHandler → List ((Nat → Option Bool) × (En → Hea → SRes)) → List Value → Prop
  | nil : SCl T X n [] [] []
  | cons {x : Str} {cv : Value} {sub : Nat → Option Bool} {fs : En → Hea → SRes} {s0 : Stmt} {ss : List Stmt} {p1 p2 : Pos} {hl : List ExceptHandler} {cl : List ((Nat → Option Bool) × (En → Hea → SRes))} {vs : List Value} (nc : Names X x cv)
      (hsub : ∀ c b, sub c = some b → PySem.W.exmOne X.K (.ref (T.ca c)) cv = some b)
      (su : ∀ (a : Addr) (oe : Obj) (c : Nat) (dx : Addr) (pn : List (Addr × Obj)), sub c = some true → Zc (.ref (T.ca c)) (some dx) oe → (∃ vs, oe.data = .fields vs) → SSs (T.at a c dx) (X.suite a ((a, oe) :: pn)) W0 (s0 :: ss) fs)
      (r : SCl T X n hl cl vs) : SCl T X n (.ExceptHandler (some (.Name x p1)) (some n) (s0 :: ss) p2 :: hl) ((sub, fs) :: cl) (cv :: vs)
section
variable {T : Tb} {X : Cx} {W : WX} {n : Str} {i : Nat} {body : List Stmt} {c0 : ExceptHandler} {cs : List ExceptHandler} {pos : Pos} {fb : En → Hea → SRes} {cl : List ((Nat → Option Bool) × (En → Hea → SRes))} {vs : List Value}
def suOf (T : Tb) (X : Cx) (q : (Nat → Option Bool) × (En → Hea → SRes)) : TSu := fun a cls d D σ H => ∃ c dx, q.1 c = some true ∧ cls = .ref (T.ca c) ∧ d = some dx ∧ tS (sy (T.at a c dx) X) W0 q.2 D σ H
theorem SCl.cls {hl : List ExceptHandler} (q : SCl T X n hl cl vs) : Clauses X n hl (vs.zip (cl.map (suOf T X))) := by
  induction q with
  | nil => exact .nil
  | cons nc hsub su r ih =>
    refine .cons nc (fun a oe cls d pn hz hff => ⟨fun pins s σ H D I q => ?_⟩) ih
    obtain ⟨c, dx, hsc, rfl, rfl, q⟩ := q
    exact (su a oe c dx pn hsc hz hff).run pins s σ H D I q
theorem SCl.ok {hl : List ExceptHandler} (hx : T.ex = none) (q : SCl T X n hl cl vs) {D : Ends} {c : Nat} {d : Val} {e1 : En} {h1 : Hea} {ρ : Own} {H : Hp} {v : V} {σ1 : L2.St} {dx : Addr} (R1 : Rel (sy T X) ρ h1 H) (r1 : Rep (sy T X) ρ H d v) (E1 : ER (sy T X) ρ H e1 σ1) (hdx : H dx = some (.xd [(T.fld c, v)]))
    (a : AftS (sy T X) ρ H (sTryM.tryMs cl i c d e1 h1) D W) : wAsM X.K i W D (vs.zip (cl.map (suOf T X))) (.ref (T.ca c)) (some dx) σ1 H := by
  induction q with
  | nil => exact a ρ v σ1 H dx .rfl R1 r1 E1 hdx
  | @cons x cv sub fs s0 ss p1 p2 hl cl vs nc hsub su r ih =>
    unfold sTryM.tryMs at a
    dsimp only at a
    cases hsb : sub c with
    | none => rw [hsb] at a; exact a.elim
    | some b =>
      rw [hsb] at a
      refine ⟨b, hsub c b hsb, fun hb1 ax hax => ?_, fun hb1 => ?_⟩
      · subst hb1
        refine ⟨c, dx, hsb, rfl, rfl, ρ, _, h1, R1.like like_at (R1.no hx), ?_, ends_ok (W := W) hx R1 a⟩
        exact ER.set (S := sy (T.at ax c dx) X) (Rep.exn (S := sy (T.at ax c dx) X) rfl hdx (r1.like like_at (r1.no hx))) i (E1.like like_at (E1.no hx))
      · subst hb1
        exact ih a
end
end Lad
end
section
set_option maxRecDepth 100000
set_option maxHeartbeats 2000000
namespace Lad
open PySem L2
def rgL (a b : Int) : List Val := (List.range (b - a).toNat).map fun i => Val.int (a + (i : Nat))
theorem reps_rg {S : Sy} {ρ : Own} {H : Hp} (a b : Int) : Reps S ρ H (rgL a b) (rgV a b) := by
  unfold rgL rgV
  generalize List.range (b - a).toNat = l
  induction l with
  | nil => exact .nil
  | cons i l ih => exact .cons (.int _) ih
def rgOkB (a b : Int) : Bool := decide (0 ≤ a ∧ b ≤ 16777216 ∧ a ≤ 16777216 ∧ 0 ≤ b)
def lRg1 (f : En → Hea → Res Val) : En → Hea → Res (List Val) := fun e h => (f e h).bind fun d h1 => match d with
  | .int n => if rgOkB 0 n = true then .ok (rgL 0 n) h1 else .stuck
  | _ => .stuck
section
variable {T : Tb} {X : Cx} {W : WX} {a b : Expr} {f g : En → Hea → Res Val} {p pos p2 pos2 : Pos}
theorem rgOkB_ok {m n : Int} (h : rgOkB m n = true) : RgOk m n := by
  have := of_decide_eq_true h
  exact .of_le this.1 this.2.1 this.2.2.1 this.2.2.2
theorem sl_rg1 (hc : X.calm = true) (hl : X.mg "list" = none) (hr : X.mg "range" = none) (ha : SE T X W a f) (gl : Gl X "list" := by rfl) (gr : Gl X "range" := by rfl) (na : starEach [a] X.env = (false, eval a X.env) :: starEach [] X.env := by rfl)
    (nb : starEach [.Call (.Name "range" p2) [a] [] pos2] X.env = (false, eval (.Call (.Name "range" p2) [a] [] pos2) X.env) :: starEach [] X.env := by rfl) :
    SL T X W (.Call (.Name "list" p) [.Call (.Name "range" p2) [a] [] pos2] [] pos) (lRg1 f) := (pe_listRg hc gl hl (prg_1 gr hr ha na) nb).imp fun σ H Q q => by
  obtain ⟨ρ, e, h, R, E, a⟩ := q
  refine ⟨ρ, e, h, R, E, (AftL.bind1 a).mono fun v H1 ⟨ρ1, d, h1, s, R1, r1, a1⟩ => ?_⟩
  split at a1
  · split at a1
    · rename_i hk
      obtain rfl := r1.int_
      exact ⟨_, rfl, rgOkB_ok hk, fun l n => a1.made R1 (reps_rg _ _) l n⟩
    · exact a1.elim
  · exact a1.elim
end
abbrev oeBase : List Value := [.type "OverflowError", .type "ArithmeticError", .type "Exception", .type "BaseException", .type "object"]
end Lad
end
section
set_option maxRecDepth 100000
set_option maxHeartbeats 0
namespace K81
open PySem L2 Lad
def top (i : Nat) : Stmt := PySem.Challenge.pw_liftedladders_k81_books_alike_refused.main.body.getD i (.Pass ⟨0, 0, 0, 0⟩)
def fldN : Nat → Str
  | 0 => ""
  | 1 => ""
  | 2 => "part"
  | 3 => "place"
  | 4 => "value"
  | 5 => ""
  | 6 => ""
  | 7 => ""
  | 8 => ""
  | 9 => ""
  | 10 => ""
  | 11 => ""
  | 12 => ""
  | 13 => ""
  | 14 => ""
  | 15 => ""
  | 16 => ""
  | 17 => ""
  | 18 => ""
  | 19 => ""
  | 20 => ""
  | 21 => ""
  | 22 => ""
  | 23 => ""
  | 24 => ""
  | 25 => "limit"
  | 26 => ""
  | _ => ""
def caK (K : PySem.W.Frag) : Nat → Addr
  | 0 => He.ga K "LadderError"
  | 2 => He.ga K "BadBook"
  | 3 => He.ga K "BadPlace"
  | 4 => He.ga K "BadGame"
  | 25 => He.ga K "TooMany"
  | 30 => He.ga K "Book"
  | 41 => He.ga K "Twins"
  | _ => 0
def nms : List Str := (["low", "high", "table", "fresh", "times", "bonus", "places", "last_phase", "parts", "start", "moved", "game", "changed", "own_places", "own_moves", "moves", "own_counts", "at", "total", "can"] : List Str) ++ (["after", "mean", "own_rows", "rows", "fault", "one", "other", "pairs", "sources", "many_players", "look_at", "take", "many_games", "put_game", "put_games", "%0", "%1", "%2", "%3", "%4"] : List Str) ++ (["%5", "%6", "%7", "%8", "%9", "%10", "%11", "%12", "%13", "%14", "%15", "%16", "%17", "%18", "%19", "%20", "%21", "%22", "%23", "%24"] : List Str) ++ (["%25", "%26", "%27", "%28", "%29", "%30", "%31", "%32", "%33", "%34", "%35", "%36", "%37", "%38", "%39", "%40", "%41", "%42", "%43", "%44"] : List Str) ++ (["%45", "%46", "%47", "%48", "%49", "%50", "%51", "%52", "%53", "%54", "%55", "%56", "%57", "%58", "%59", "%60", "%61", "%62", "%63", "%64"] : List Str)
def nmN (i : Nat) : Str := nms.getD i ""
abbrev TT (K : PySem.W.Frag) : Tb := ⟨caK K, nmN, fldN, none⟩
def sub_BadPlace : Nat → Option Bool
  | 2 => some false
  | 3 => some true
  | 4 => some false
  | 25 => some false
  | _ => none
def sub_TooMany : Nat → Option Bool
  | 2 => some false
  | 3 => some false
  | 4 => some false
  | 25 => some true
  | _ => none
def k_MOST_GAMES : Val := (.int 20000)
def k_MOST_PLACES : Val := (.int 24)
def k_MOST_RATING : Val := (.int 23)
def k_MOST_ROWS : Val := (.int 6)
def k_RESULTS : Val := (.tup [(.str "upper"), (.str "draw"), (.str "lower")])
abbrev e_BadBook : ErD := ⟨"BadBook", inClass (top 3) 0, "BadBook.__init__", "part"⟩
abbrev e_BadPlace : ErD := ⟨"BadPlace", inClass (top 4) 0, "BadPlace.__init__", "place"⟩
abbrev e_BadGame : ErD := ⟨"BadGame", inClass (top 5) 0, "BadGame.__init__", "value"⟩
abbrev e_TooMany : ErD := ⟨"TooMany", inClass (top 6) 0, "TooMany.__init__", "limit"⟩
abbrev P0 : Program := PySem.Challenge.pw_liftedladders_k81_books_alike_refused
abbrev d_is_whole : He.DefD := ⟨("is_whole", none), "is_whole", "is_whole", defArgs (top 9), defBody (top 9), defScope (top 9), [], []⟩
abbrev d_row_at : He.DefD := ⟨("row_at", none), "row_at", "row_at", defArgs (top 18), defBody (top 18), defScope (top 18), [], []⟩
abbrev d_is_result : He.DefD := ⟨("is_result", none), "is_result", "is_result", defArgs (top 19), defBody (top 19), defScope (top 19), [], []⟩
abbrev d__law_pool : He.DefD := ⟨("_law_pool", none), "_law_pool", "_law_pool", defArgs (top 28), defBody (top 28), defScope (top 28), [], []⟩
abbrev d__law_draw : He.DefD := ⟨("_law_draw", none), "_law_draw", "_law_draw", defArgs (top 29), defBody (top 29), defScope (top 29), [], []⟩
abbrev d__law_shows : He.DefD := ⟨("_law_shows", none), "_law_shows", "_law_shows", defArgs (top 34), defBody (top 34), defScope (top 34), [], []⟩
abbrev d_Book_last_phase : He.DefD := ⟨("Book", some "last_phase"), "last_phase", "Book.last_phase", defArgs (inClass (top 20) 7), defBody (inClass (top 20) 7), defScope (inClass (top 20) 7), [], []⟩
abbrev d_Book_moved : He.DefD := ⟨("Book", some "moved"), "moved", "Book.moved", defArgs (inClass (top 20) 10), defBody (inClass (top 20) 10), defScope (inClass (top 20) 10), [], []⟩
abbrev d_Twins_many_games : He.DefD := ⟨("Twins", some "many_games"), "many_games", "Twins.many_games", defArgs (inClass (top 23) 3), defBody (inClass (top 23) 3), defScope (inClass (top 23) 3), [], []⟩
abbrev d_is_integer : He.DefD := ⟨("is_integer", none), "is_integer", "is_integer", defArgs (top 8), defBody (top 8), defScope (top 8), [], []⟩
abbrev d_Book_places : He.DefD := ⟨("Book", some "places"), "places", "Book.places", defArgs (inClass (top 20) 8), defBody (inClass (top 20) 8), defScope (inClass (top 20) 8), [], []⟩
abbrev d_is_entry : He.DefD := ⟨("is_entry", none), "is_entry", "is_entry", defArgs (top 15), defBody (top 15), defScope (top 15), [], []⟩
abbrev d_check_rating : He.DefD := ⟨("check_rating", none), "check_rating", "check_rating", defArgs (top 24), defBody (top 24), defScope (top 24), [], []⟩
abbrev d_Book___len__ : He.DefD := ⟨("Book", some "__len__"), "__len__", "Book.__len__", defArgs (inClass (top 20) 1), defBody (inClass (top 20) 1), defScope (inClass (top 20) 1), [], []⟩
abbrev d_Book___contains__ : He.DefD := ⟨("Book", some "__contains__"), "__contains__", "Book.__contains__", defArgs (inClass (top 20) 3), defBody (inClass (top 20) 3), defScope (inClass (top 20) 3), [], []⟩
abbrev d_Book_start : He.DefD := ⟨("Book", some "start"), "start", "Book.start", defArgs (inClass (top 20) 9), defBody (inClass (top 20) 9), defScope (inClass (top 20) 9), [], []⟩
abbrev d_is_table_row : He.DefD := ⟨("is_table_row", none), "is_table_row", "is_table_row", defArgs (top 16), defBody (top 16), defScope (top 16), [], []⟩
abbrev d_Book_game : He.DefD := ⟨("Book", some "game"), "game", "Book.game", defArgs (inClass (top 20) 11), defBody (inClass (top 20) 11), defScope (inClass (top 20) 11), [], []⟩
abbrev d_is_table : He.DefD := ⟨("is_table", none), "is_table", "is_table", defArgs (top 17), defBody (top 17), defScope (top 17), [], []⟩
abbrev d_Twins_take : He.DefD := ⟨("Twins", some "take"), "take", "Twins.take", defArgs (inClass (top 23) 2), defBody (inClass (top 23) 2), defScope (inClass (top 23) 2), [], []⟩
abbrev d_Book___init__ : He.DefD := ⟨("Book", some "__init__"), "__init__", "Book.__init__", defArgs (inClass (top 20) 0), defBody (inClass (top 20) 0), defScope (inClass (top 20) 0), [], [("fresh", (.int 0)), ("times", (.int 1)), ("bonus", (.int 0))]⟩
abbrev d_Twins_look_at : He.DefD := ⟨("Twins", some "look_at"), "look_at", "Twins.look_at", defArgs (inClass (top 23) 1), defBody (inClass (top 23) 1), defScope (inClass (top 23) 1), [], []⟩
abbrev d_Twins___init__ : He.DefD := ⟨("Twins", some "__init__"), "__init__", "Twins.__init__", defArgs (inClass (top 23) 0), defBody (inClass (top 23) 0), defScope (inClass (top 23) 0), [], []⟩
abbrev d_are_alike : He.DefD := ⟨("are_alike", none), "are_alike", "are_alike", defArgs (top 25), defBody (top 25), defScope (top 25), [], []⟩
abbrev d_Twins_put_games : He.DefD := ⟨("Twins", some "put_games"), "put_games", "Twins.put_games", defArgs (inClass (top 23) 4), defBody (inClass (top 23) 4), defScope (inClass (top 23) 4), [], []⟩
abbrev d_Twins_put_game : He.DefD := ⟨("Twins", some "put_game"), "put_game", "Twins.put_game", defArgs (inClass (top 23) 5), defBody (inClass (top 23) 5), defScope (inClass (top 23) 5), [], []⟩
abbrev d_first_unlike : He.DefD := ⟨("first_unlike", none), "first_unlike", "first_unlike", defArgs (top 26), defBody (top 26), defScope (top 26), [], []⟩
abbrev d__law_refused : He.DefD := ⟨("_law_refused", none), "_law_refused", "_law_refused", defArgs (top 31), defBody (top 31), defScope (top 31), [], []⟩
abbrev d__law_known : He.DefD := ⟨("_law_known", none), "_law_known", "_law_known", defArgs (top 32), defBody (top 32), defScope (top 32), [], []⟩
abbrev d__law_told_games : He.DefD := ⟨("_law_told_games", none), "_law_told_games", "_law_told_games", defArgs (top 33), defBody (top 33), defScope (top 33), [], []⟩
abbrev d__law_far_right : He.DefD := ⟨("_law_far_right", none), "_law_far_right", "_law_far_right", defArgs (top 35), defBody (top 35), defScope (top 35), [], []⟩
abbrev d_law : He.DefD := ⟨("law", none), "law", "law", defArgs (top 36), defBody (top 36), defScope (top 36), [], []⟩
def fn : List He.DefD := [d_is_whole, d_row_at, d_is_result, d__law_pool, d__law_draw, d__law_shows, d_Book_last_phase, d_Book_moved, d_Twins_many_games, d_is_integer, d_Book_places, d_is_entry, d_check_rating, d_Book___len__, d_Book___contains__, d_Book_start, d_is_table_row, d_Book_game, d_is_table, d_Twins_take, d_Book___init__, d_Twins_look_at, d_Twins___init__, d_are_alike, d_Twins_put_games, d_Twins_put_game, d_first_unlike, d__law_refused, d__law_known, d__law_told_games, d__law_far_right, d_law]
def er : List ErD := [e_BadBook, e_BadPlace, e_BadGame, e_TooMany]
def fa : List Chk := [(He.Fa.free "all").ok,
  (He.Fa.free "bool").ok,
  (He.Fa.free "int").ok,
  (He.Fa.free "isinstance").ok,
  (He.Fa.free "len").ok,
  (He.Fa.free "list").ok,
  (He.Fa.free "max").ok,
  (He.Fa.free "min").ok,
  (He.Fa.free "range").ok,
  (He.Fa.free "repr").ok,
  (He.Fa.free "str").ok,
  (He.Fa.free "tuple").ok,
  (He.Fa.free "zip").ok,
  (He.Fa.glo "is_whole").ok,
  (He.Fa.glo "row_at").ok,
  (He.Fa.glo "is_result").ok,
  (He.Fa.glo "_law_pool").ok,
  (He.Fa.glo "_law_draw").ok,
  (He.Fa.glo "_law_shows").ok,
  (He.Fa.glo "is_integer").ok,
  (He.Fa.glo "is_entry").ok,
  (He.Fa.glo "check_rating").ok,
  (He.Fa.glo "is_table_row").ok,
  (He.Fa.glo "is_table").ok,
  (He.Fa.glo "are_alike").ok,
  (He.Fa.glo "first_unlike").ok,
  (He.Fa.glo "_law_refused").ok,
  (He.Fa.glo "_law_known").ok,
  (He.Fa.glo "_law_told_games").ok,
  (He.Fa.glo "_law_far_right").ok,
  (He.Fa.glo "law").ok,
  noList,
  (conB "MOST_GAMES" k_MOST_GAMES),
  (conB "MOST_PLACES" k_MOST_PLACES),
  (conB "MOST_RATING" k_MOST_RATING),
  (conB "MOST_ROWS" k_MOST_ROWS),
  (conB "RESULTS" k_RESULTS),
  (tupDB "RESULTS"),
  (He.Fa.glo "LadderError").ok,
  (He.Fa.glo "BadBook").ok,
  (He.Fa.glo "BadPlace").ok,
  (He.Fa.glo "BadGame").ok,
  (He.Fa.glo "TooMany").ok,
  (He.Fa.glo "Book").ok,
  (He.Fa.glo "Twins").ok,
  (fun K => erB P0.main.file "ValueError" "ValueError.__new__" "ValueError.__init__" He.veBase K e_BadBook),
  (fun K => excB K (caK K 2)),
  (fun K => eqO (PySem.W.findIn K (.ref (caK K 2)) "part") (some none)),
  (fun K => erB P0.main.file "ValueError" "ValueError.__new__" "ValueError.__init__" He.veBase K e_BadPlace),
  (fun K => excB K (caK K 3)),
  (fun K => eqO (PySem.W.findIn K (.ref (caK K 3)) "place") (some none)),
  (fun K => erB P0.main.file "ValueError" "ValueError.__new__" "ValueError.__init__" He.veBase K e_BadGame),
  (fun K => excB K (caK K 4)),
  (fun K => eqO (PySem.W.findIn K (.ref (caK K 4)) "value") (some none)),
  (fun K => erB P0.main.file "OverflowError" "OverflowError.__new__" "OverflowError.__init__" oeBase K e_TooMany),
  (fun K => excB K (caK K 25)),
  (fun K => eqO (PySem.W.findIn K (.ref (caK K 25)) "limit") (some none)),
  (fun K => decide (PySem.W.exmOne K (.ref (caK K 2)) (.ref (caK K 3)) = some false)),
  (fun K => decide (PySem.W.exmOne K (.ref (caK K 2)) (.ref (caK K 25)) = some false)),
  (fun K => decide (PySem.W.exmOne K (.ref (caK K 3)) (.ref (caK K 3)) = some true)),
  (fun K => decide (PySem.W.exmOne K (.ref (caK K 3)) (.ref (caK K 25)) = some false)),
  (fun K => decide (PySem.W.exmOne K (.ref (caK K 4)) (.ref (caK K 3)) = some false)),
  (fun K => decide (PySem.W.exmOne K (.ref (caK K 4)) (.ref (caK K 25)) = some false)),
  (fun K => decide (PySem.W.exmOne K (.ref (caK K 25)) (.ref (caK K 3)) = some false)),
  (fun K => decide (PySem.W.exmOne K (.ref (caK K 25)) (.ref (caK K 25)) = some true)),
  (fun K => ownB K (caK K 30)),
  (fun K => ownB K (caK K 41)),
  (fun K => eqO (PySem.W.findIn K (.ref (caK K 30)) "bonus") (some none)),
  (fun K => eqO (PySem.W.findIn K (.ref (caK K 30)) "fresh") (some none)),
  (fun K => eqO (PySem.W.findIn K (.ref (caK K 30)) "high") (some none)),
  (fun K => eqO (PySem.W.findIn K (.ref (caK K 30)) "low") (some none)),
  (fun K => eqO (PySem.W.findIn K (.ref (caK K 30)) "table") (some none)),
  (fun K => eqO (PySem.W.findIn K (.ref (caK K 30)) "times") (some none)),
  (fun K => eqO (PySem.W.findIn K (.ref (caK K 41)) "fault") (some none)),
  (fun K => eqO (PySem.W.findIn K (.ref (caK K 41)) "many_players") (some none)),
  (fun K => eqO (PySem.W.findIn K (.ref (caK K 41)) "one") (some none)),
  (fun K => eqO (PySem.W.findIn K (.ref (caK K 41)) "other") (some none)),
  (fun K => eqO (PySem.W.findIn K (.ref (caK K 41)) "pairs") (some none)),
  (fun K => eqO (PySem.W.findIn K (.ref (caK K 41)) "sources") (some none)),
  (fun K => (He.Fa.meth "Book" "game").ok K),
  (fun K => (He.Fa.meth "Book" "last_phase").ok K),
  (fun K => (He.Fa.meth "Book" "moved").ok K),
  (fun K => (He.Fa.meth "Book" "places").ok K),
  (fun K => (He.Fa.meth "Book" "start").ok K),
  (fun K => (He.Fa.meth "Twins" "look_at").ok K),
  (fun K => (He.Fa.meth "Twins" "many_games").ok K),
  (fun K => (He.Fa.meth "Twins" "put_game").ok K),
  (fun K => (He.Fa.meth "Twins" "put_games").ok K),
  (fun K => (He.Fa.meth "Twins" "take").ok K),
  (fun K => (He.Fa.mkr "Book").ok K),
  (fun K => (He.Fa.mkr "Twins").ok K),
  (fun K => dunB "__contains__" K (caK K 30)),
  (fun K => dunB "__len__" K (caK K 30))]
abbrev R : PySem.W.OpenRow := PySem.W.OpenLaw.row PySem.Challenge.rw_liftedladders_k81_books_alike_refused
abbrev hk : PySem.W.Hook := hookL 4 fa fn er
def ob (s : PySem.W.SharedT) : AlL := obsLG 4 fa fn er (HandSHeadRun.getT s)
theorem ob_eq (s : PySem.W.SharedT) : ob s = hk.obs s.abs := obsLG_eq (HandSHeadRun.getT_eq s)
def loose : List Str := (["_wall", "is_integer", "is_whole", "is_entry", "is_table_row", "is_table", "row_at", "is_result", "check_rating", "are_alike", "first_unlike", "_law_pool", "_law_draw", "_law_pick", "_law_refused", "_law_known", "_law_told_games", "_law_shows", "_law_far_right", "LadderError", "BadBook", "BadPlace", "BadGame", "TooMany", "Book", "Twins", "MOST_RATING", "MOST_PLACES", "MOST_ROWS", "RESULTS"] : List Str) ++ (["MOST_GAMES"] : List Str)
theorem three {a b c d : Type} {r : Option a} {f : a → b} {g : a → c} {h : a → d} {x : b} {y : c} {z : d} (h1 : r.map f = some x) (h2 : r.map g = some y) (h3 : r.map h = some z) : r.map (fun s => (f s, g s, h s)) = some (x, y, z) := by
  cases r with
  | none => cases h1
  | some s =>
    simp only [Option.map_some, Option.some.injEq] at h1 h2 h3 ⊢
    rw [h1, h2, h3]
theorem run1 (w : World) (os : OsState) : Option.map (fun s => HandSHeadRun.looksF R.prog (PySem.W.boot_heap w.params) s.abs) (HandSHeadRun.endF (HandSHeadRun.stepQ (HandSHeadRun.denQ HandSHeadRun.tabQ) R.prog w) 8000 R.prog w os) = some true := by
  kernel_rfl
theorem run2 (w : World) (os : OsState) : Option.map (fun s => HandSHeadRun.seenQ (PySem.W.view R.prog [36]) loose (PySem.importedModules R.prog.main.body) (fun s => PySem.W.xlAt (PySem.W.view R.prog [36]) [] s && PySem.W.recOk R.records s) s.abs) (HandSHeadRun.endF (HandSHeadRun.stepQ (HandSHeadRun.denQ HandSHeadRun.tabQ) R.prog w) 8000 R.prog w os) = some (PySem.W.openGood (PySem.W.view R.prog [36]) loose) := by
  kernel_rfl
def KT (s : PySem.W.SharedT) : PySem.W.Frag := He.frG (HandSHeadRun.getT s) (asL (HandSHeadRun.getT s) 4)
theorem cut_all {α : Type} {f : α → Bool} {l : List α} {m : Nat} (h1 : (l.take m).all f = true) (h2 : (l.drop m).all f = true) : l.all f = true := by
  rw [← List.take_append_drop m l, List.all_append, h1, h2]
  rfl
theorem run3a0 (w : World) (os : OsState) : Option.map (fun s => (fa.take 50).all fun f => f (KT s)) (HandSHeadRun.endF (HandSHeadRun.stepQ (HandSHeadRun.denQ HandSHeadRun.tabQ) R.prog w) 8000 R.prog w os) = some (true) := by
  kernel_rfl
theorem run3a1 (w : World) (os : OsState) : Option.map (fun s => (fa.drop 50).all fun f => f (KT s)) (HandSHeadRun.endF (HandSHeadRun.stepQ (HandSHeadRun.denQ HandSHeadRun.tabQ) R.prog w) 8000 R.prog w os) = some (true) := by
  kernel_rfl
theorem run3b0 (w : World) (os : OsState) : Option.map (fun s => fn.all fun d => d.ok (KT s)) (HandSHeadRun.endF (HandSHeadRun.stepQ (HandSHeadRun.denQ HandSHeadRun.tabQ) R.prog w) 8000 R.prog w os) = some (true) := by
  kernel_rfl
theorem run3c0 (w : World) (os : OsState) : Option.map (fun s => fn.map fun d => He.fnW (KT s) d.at_) (HandSHeadRun.endF (HandSHeadRun.stepQ (HandSHeadRun.denQ HandSHeadRun.tabQ) R.prog w) 8000 R.prog w os) = some (fn.map He.DefD.val) := by
  kernel_rfl
theorem run3d (w : World) (os : OsState) : Option.map (fun s => er.map fun d => erW (KT s) d) (HandSHeadRun.endF (HandSHeadRun.stepQ (HandSHeadRun.denQ HandSHeadRun.tabQ) R.prog w) 8000 R.prog w os) = some (er.map ErD.val) := by
  kernel_rfl
theorem six {r : Option PySem.W.SharedT} (ha0 : r.map (fun s => (fa.take 50).all fun f => f (KT s)) = some (true)) (ha1 : r.map (fun s => (fa.drop 50).all fun f => f (KT s)) = some (true)) (hb0 : r.map (fun s => fn.all fun d => d.ok (KT s)) = some (true)) (hc0 : r.map (fun s => fn.map fun d => He.fnW (KT s) d.at_) = some (fn.map He.DefD.val)) (hd : r.map (fun s => er.map fun d => erW (KT s) d) = some (er.map ErD.val)) : r.map (fun s => ob s) = some (valL fn er) := by
  cases r with
  | none => cases ha0
  | some s =>
    have e : ob s = (((fa.all fun f => f (KT s)) && fn.all fun d => d.ok (KT s), fn.map fun d => He.fnW (KT s) d.at_, er.map fun d => erW (KT s) d)) := rfl
    have ha0 := Option.some.inj ha0
    have ha1 := Option.some.inj ha1
    have hb0 := Option.some.inj hb0
    have hc0 := Option.some.inj hc0
    have hd := Option.some.inj hd
    have a : (fa.all fun f => f (KT s)) = true := (cut_all (m := 50) ha0 ha1)
    have b : (fn.all fun d => d.ok (KT s)) = true := hb0
    have c : (fn.map fun d => He.fnW (KT s) d.at_) = fn.map He.DefD.val := hc0
    dsimp only at hd
    show some (ob s) = _
    rw [e, a, b, c, hd]
    rfl
theorem run3 (w : World) (os : OsState) : Option.map (fun s => ob s) (HandSHeadRun.endF (HandSHeadRun.stepQ (HandSHeadRun.denQ HandSHeadRun.tabQ) R.prog w) 8000 R.prog w os) = some (hk.val w) := six (run3a0 w os) (run3a1 w os) (run3b0 w os) (run3c0 w os) (run3d w os)
theorem run (w : World) : HandSHeadRun.RunEq R (PySem.W.view R.prog [36]) hk ob 8000 loose w := fun os => three (run1 w os) (run2 w os) (run3 w os)
end K81
end
section
set_option maxRecDepth 100000
set_option maxHeartbeats 2000000
namespace Lad
open PySem PySem.Spec PyProof.Rows L2
end Lad
end
section
set_option maxRecDepth 100000
set_option maxHeartbeats 2000000
namespace Lad
open PySem PySem.Spec PyProof.Rows L2
end Lad
end
section
set_option maxRecDepth 100000
set_option maxHeartbeats 2000000
namespace Lad
open PySem PySem.Spec PyProof.Rows L2
end Lad
end
section
set_option maxRecDepth 100000
set_option maxHeartbeats 2000000
namespace Lad
open PySem L2
end Lad
end
section
set_option maxRecDepth 100000
set_option maxHeartbeats 1000000
namespace L2
open PySem PySem.Spec PyProof.Rows GenW
end L2
end
section
set_option maxRecDepth 100000
set_option maxHeartbeats 2000000
namespace Lad
open PySem L2
inductive GRes where
  | nx (ys : List Val) (e : En) (h : Hea) | rt (ys : List Val) (h : Hea) | bk (ys : List Val) (e : En) (h : Hea) | ct (ys : List Val) (e : En) (h : Hea) | exc (c : Nat) (d : Val) (e : En) (h : Hea) | stuck
abbrev GF := List Val → En → Hea → GRes
def AftG (S : Sy) (ρ : Own) (H : Hp) (r : GRes) (D : GEnds) (W : WX) : Prop := match r with
  | .nx ys e h => ∀ ρ' σ' H' us, Go S ρ H ρ' H' → Rel S ρ' h H' → ER S ρ' H' e σ' → Reps S ρ' H' ys us → D.nx us σ' H'
  | .bk ys e h => ∀ ρ' σ' H' us, Go S ρ H ρ' H' → Rel S ρ' h H' → ER S ρ' H' e σ' → Reps S ρ' H' ys us → D.bk us σ' H'
  | .ct ys e h => ∀ ρ' σ' H' us, Go S ρ H ρ' H' → Rel S ρ' h H' → ER S ρ' H' e σ' → Reps S ρ' H' ys us → D.ct us σ' H'
  | .rt ys h => ∀ ρ' H' us, Go S ρ H ρ' H' → Rel S ρ' h H' → Reps S ρ' H' ys us → D.rt us .non H'
  | .exc c d e h => ∀ ρ' v σ' H' dx, Go S ρ H ρ' H' → Rel S ρ' h H' → Rep S ρ' H' d v → ER S ρ' H' e σ' → H' dx = some (.xd [(S.fld c, v)]) → W (.ref (S.ca c)) (some dx) σ' H'
  | .stuck => False
theorem AftG.later {S : Sy} {ρ ρ1 : Own} {H H1 : Hp} {r : GRes} {D : GEnds} {W : WX} (a : AftG S ρ H r D W) (s : Go S ρ H ρ1 H1) : AftG S ρ1 H1 r D W := by
  cases r with
  | nx ys e h => exact fun ρ' σ' H' us g => a ρ' σ' H' us (s.trans g)
  | bk ys e h => exact fun ρ' σ' H' us g => a ρ' σ' H' us (s.trans g)
  | ct ys e h => exact fun ρ' σ' H' us g => a ρ' σ' H' us (s.trans g)
  | rt ys h => exact fun ρ' H' us g => a ρ' H' us (s.trans g)
  | exc c d e h => exact fun ρ' v σ' H' dx g => a ρ' v σ' H' dx (s.trans g)
  | stuck => exact a
theorem _root_.L2.GS.imp {X : Cx} {st : Stmt} {t t' : TGn} (p : GS X st t) (i : ∀ D ys σ H, t' D ys σ H → t D ys σ H) : GS X st t' :=
  ⟨fun A S ip R n ys s₀ c fs K J gd lv s σ H D g hn k hI ht => p.run A S ip R n ys s₀ c fs K J gd lv s σ H D g hn k hI (i D ys σ H ht)⟩
theorem _root_.L2.GSs.imp {X : Cx} {st : List Stmt} {t t' : TGn} (p : GSs X st t) (i : ∀ D ys σ H, t' D ys σ H → t D ys σ H) : GSs X st t' :=
  ⟨fun A S ip R n ys s₀ c fs K J gd lv s σ H D g hn k hI ht => p.run A S ip R n ys s₀ c fs K J gd lv s σ H D g hn k hI (i D ys σ H ht)⟩
def gNil : GF := fun ys e h => .nx ys e h
def ofG {α : Type} (r : Res α) (e : En) (k : α → Hea → GRes) : GRes := match r with
  | .ok a h => k a h
  | .exc c d h => .exc c d e h
  | .stuck => .stuck
section
variable {S : Sy} {W : WX} {H : Hp} {D : GEnds} {ρ : Own} {σ : St} {e : En}
theorem AftG.ofR {r : Res Val} {k : Val → Hea → GRes} (a : AftG S ρ H (ofG r e k) D W) (E : ER S ρ H e σ) :
    Aft S ρ H r (fun v H1 => ∃ ρ1 d h1, Go S ρ H ρ1 H1 ∧ Rel S ρ1 h1 H1 ∧ Rep S ρ1 H1 d v ∧ ER S ρ1 H1 e σ ∧ AftG S ρ1 H1 (k d h1) D W) (fun c d H' => W c d σ H') := by
  cases r with
  | ok d h => exact fun ρ1 v H1 s R r => ⟨ρ1, d, h, s, R, r, E.go s, AftG.later (r := k d h) a s⟩
  | exc c d h => exact fun ρ1 v H1 dx s R r x => a ρ1 v σ H1 dx s R r (E.go s) x
  | stuck => exact a
theorem AftG.ofI {r : Res Src} {k : Src → Hea → GRes} (a : AftG S ρ H (ofG r e k) D W) (E : ER S ρ H e σ) :
    AftI S ρ H r (fun J H1 => ∃ ρ1 d h1, Go S ρ H ρ1 H1 ∧ Rel S ρ1 h1 H1 ∧ JOk S ρ1 H1 J d.item ∧ ER S ρ1 H1 e σ ∧ AftG S ρ1 H1 (k d h1) D W) (fun c d H' => W c d σ H') := by
  cases r with
  | ok d h => exact fun ρ1 H1 J s R r => ⟨ρ1, d, h, s, R, r, E.go s, AftG.later (r := k d h) a s⟩
  | exc c d h => exact fun ρ1 v H1 dx s R r x => a ρ1 v σ H1 dx s R r (E.go s) x
  | stuck => exact a
end
end Lad
end
section
set_option maxRecDepth 100000
set_option maxHeartbeats 2000000
namespace Lad
open PySem
open L2
end Lad
end
section
set_option maxRecDepth 100000
set_option maxHeartbeats 2000000
namespace Lad
open PySem L2
end Lad
end
section
set_option maxRecDepth 100000
set_option maxHeartbeats 1000000
namespace Lad
open PySem L2
def eCall0 (cf : List Val → Hea → Res Val) : En → Hea → Res Val := fun _ h => cf [] h
section
variable {T : Tb} {X : Cx} {W : WX} {x : Str} {f : Addr} {fd : FuncData} {k : Nat} {cf : List Val → Hea → Res Val} {p pos : Pos}
theorem se_call0 (F : FnOk X.prog X.w X.K X.mg X.base (L2.CX X.prog X.w) k f fd [] (spEv (sy T X) cf)) (hr : Room k X.A) (hg : Gl X x) (hm : X.mg x = some (.ref f)) (hk : PySem.W.keepIn X.K (.ref f) = true) (hb : Binds X.K fd [] []) (tk : Takes X W) (hdb : (x == ("__debug__" : Str)) = false := by decide) :
    SE T X W (.Call (.Name x p) [] [] pos) (eCall0 cf) := by
  refine ⟨fun pins s σ H Q I q => ?_⟩
  obtain ⟨ρ, e, h, R, E, a⟩ := q
  refine wpAny_Call_Name_kw (ld_glob I hg hm ?_ hdb)
  refine PySem.W.callWith_K0 I.kIn hk ?_
  exact run_fnS (E := fun σ => WE W σ) (us := []) (vs := []) F hr hb (passAt tk σ) I .nil ⟨ρ, h, [], R, .nil, a⟩
end
end Lad
end
section
set_option maxRecDepth 100000
set_option maxHeartbeats 1000000
namespace Lad
open PySem L2
end Lad
end
section
set_option maxRecDepth 100000
set_option maxHeartbeats 1000000
namespace Lad
open PySem L2
end Lad
end
section
set_option maxRecDepth 100000
set_option maxHeartbeats 2000000
namespace Lad
open PySem L2
theorem funD_of {K : PySem.W.Frag} {d : He.DefD} {x qual : Str} {st : Stmt} {kwd : List (Str × He.Dv)} (hd : d = ⟨d.at_, x, qual, defArgs st, defBody st, defScope st, [], kwd⟩) (e : He.fnW K d.at_ = d.val) (c : d.ok K = true) :
    FunD K x qual (defArgs st) (defBody st) (defScope st) [] (kwd.map fun q => (q.1, q.2.v K)) (He.fAd K d.at_) (fdOf K (He.fAd K d.at_)) := by
  obtain ⟨fd, F⟩ := He.DefD.funD e c
  have ef : fdOf K (He.fAd K d.at_) = fd := by
    obtain ⟨oc, od, dV, kV, doc, pm, an, cdv, ct, osl, rfl, lk, _⟩ := F.ex
    unfold fdOf; rw [lk]
  rw [ef]
  obtain ⟨at_, _, _, _, _, _, _, _⟩ := d
  cases hd
  exact F
theorem fun_ofD {K : PySem.W.Frag} {x qual : Str} {st : Stmt} {kws : List (Str × V)} {f : Addr} {fd : FuncData} (F : FunD K x qual (defArgs st) (defBody st) (defScope st) [] kws f fd) : Fun K x qual st f fd := by
  obtain ⟨oc, od, dV, kV, doc, pm, an, cdv, ct, osl, e, lk, hcd, hdf, _⟩ := F.ex
  have dn : dV = .none := by
    rcases hdf with ⟨_, h⟩ | ⟨h, _⟩
    · exact h
    · exact absurd rfl h
  subst dn
  exact ⟨⟨oc, od, kV, doc, pm, an, cdv, ct, osl, e, lk, hcd⟩, F.kp⟩
theorem kbn_dfl {K : PySem.W.Frag} {x qual : Str} {st : Stmt} {f : Addr} {fd : FuncData} {ps : List Str} {kws : List (Str × V)} (F : FunD K x qual (defArgs st) (defBody st) (defScope st) [] kws f fd) (n : Nat) (ks : List Str) (ms : List (Str × V)) (is : List Nat) (hk : kws ≠ []) (hms : ∀ q ∈ ms, q ∈ kws)
    (h : ∀ (D : Addr) (doc pm : Value) (an : Option Addr) (cdv ct : Value) (us mv ws : List Value), us.length = n → mv.length = ms.length → ws.length = ks.length →
      KwChain D ((ms.map (·.1)).zip mv) (bindArgs (PySem.W.fnOf x qual (defArgs st) (defBody st) (defScope st) .none (.ref D) doc pm an cdv ct) ⟨us, ks.zip ws⟩) (ps.zip (pick is (us ++ ws ++ mv)))) :
    ∃ mv : List Value, KBn K fd ps n ks (fun us ws => pick is (us ++ ws ++ mv)) (fun vs zs => pick is (vs ++ zs ++ ms.map (·.2))) :=
  F.kbinds0 n ks ms (fun us mv ws => pick is (us ++ ws ++ mv)) hk hms (fun r1 r2 r3 => Vals.pick ((r1.append r3).append r2) is) h
def eMakeKdG (fn : Hea → Val → Hea → Res Val) (is : List Nat) (dv : List Val) (n m c : Nat) (cf : List Val → Hea → Res Val) (g gk : En → Hea → Res (List Val)) : En → Hea → Res Val := fun e h => (g e h).bind fun ds h1 => (gk e h1).bind fun zs h2 =>
  if ds.length = n ∧ zs.length = m then mkEnd fn h2 (cf (pick is (.ref h2.length :: (ds ++ zs) ++ dv)) (h2 ++ [.ins c []])) else .stuck
abbrev eMakeKd := eMakeKdG fin
section
variable {T : Tb} {X : Cx} {W : WX} {x : Str} {f : Addr} {fd : FuncData} {ps ks : List Str} {k c n : Nat} {cf : List Val → Hea → Res Val} {e : Expr} {es : List Expr} {kws : List Keyword} {g gk : En → Hea → Res (List Val)} {p pos : Pos} {is : List Nat} {gg : List Value → List Value → List Value} {dv : List Val} {ms : List V}
theorem se_makeKd {fn : Hea → Val → Hea → Res Val} (fo : FinOk fn) (hm : X.mg x = some (.ref (T.ca c))) (M : Mk X.K (T.ca c) f) (F : FnOk X.prog X.w X.K X.mg X.base (L2.CX X.prog X.w) k f fd ps (spEv (sy T X) cf)) (hr : Room (k + 1) X.A)
    (hb : ∃ mv : List Value, KBn X.K fd ps (n + 1) ks (fun us ws => pick is (us ++ ws ++ mv)) (fun vs zs => pick is (vs ++ zs ++ ms))) (hdv : ∀ ρ H, Reps (sy T X) ρ H dv ms) (tk : Takes X W) (ha : SA T X W (e :: es) g) (hkw : SK T X W kws gk) (hg : Gl X x := by rfl)
    (hall : (backToKw pos (keywordEach kws X.env)).all (·.1.isSome) = true := by rfl) (hks : (backToKw pos (keywordEach kws X.env)).filterMap (·.1) = ks := by rfl) (hdb : (x == ("__debug__" : Str)) = false := by decide)
    (he : starEach (e :: es) X.env = (false, eval e X.env) :: starEach es X.env := by rfl) (hpl : ((backTo pos (starEach (e :: es) X.env)).any (·.1) || (backToKw pos (keywordEach kws X.env)).any (·.1.isNone)) = false := by rfl) :
    SE T X W (.Call (.Name x p) (e :: es) kws pos) (eMakeKdG fn is dv n ks.length c cf g gk) := by
  obtain ⟨mv, hb⟩ := hb
  refine (pe_mkKS (E := WE W) M F hr hg hm hb (fun σ => passAt tk σ) ha hkw hall hks hdb he hpl).imp fun σ H Q q => ?_
  obtain ⟨ρ, e, h, R, E, a⟩ := q
  unfold eMakeKdG at a
  refine ⟨ρ, e, h, R, E, (AftA.bind a).mono fun us H0 ⟨ρ0, ds, h0, s0, R0, r0, a0⟩ => ⟨ρ0, e, h0, R0, E.go s0, (AftA.bind a0).mono fun zs H1 ⟨ρ1, dz, h1, s, R1, r1, a1⟩ => ?_⟩⟩
  split at a1
  · rename_i hl
    refine ⟨(r0.length).symm.trans hl.1, r1.length.symm.trans hl.2, ?_⟩
    intro y dx ny ndx hne
    have g1 : Go (sy T X) ρ1 H1 ρ1 (upd H1 dx (.own y)) := .side ndx
    have R2 : Rel (sy T X) ρ1 h1 (upd H1 dx (.own y)) := R1.side ndx
    have ny2 : upd H1 dx (.own y) y = none := by rw [upd_ne (Ne.symm hne)]; exact ny
    have g2 : Go (sy T X) ρ1 (upd H1 dx (.own y)) (ρ1.add y) (upd (upd H1 dx (.own y)) y (.ins (T.ca c) dx [])) := .new ny2
    have R3 : Rel (sy T X) (ρ1.add y) (h1 ++ [.ins c []]) (upd (upd H1 dx (.own y)) y (.ins (T.ca c) dx [])) := R2.new ny2 (.ins upd_same .nil)
    have ey : (ρ1.add y).nm[h1.length]? = some y := by rw [R1.len]; exact add_at
    have rr : Reps (sy T X) (ρ1.add y) (upd (upd H1 dx (.own y)) y (.ins (T.ca c) dx [])) (.ref h1.length :: (ds ++ dz) ++ dv) (.ref y :: us ++ zs ++ ms) := Reps.app (.cons (.ref ey) (((r0.go s).app r1).go (g1.trans g2))) (hdv _ _)
    exact ⟨ρ1.add y, h1 ++ [.ins c []], _, R3, rr.pick is, mkEnd_aft fo R1 (g1.trans g2) ey a1⟩
  · exact a1.elim
end
end Lad
end
section
set_option maxRecDepth 100000
set_option maxHeartbeats 2000000
namespace Lad
open PySem L2
abbrev RSl := V → Option Int → Option Int → Hp → VK → Prop
def rSlOr (r1 r2 : RSl) : RSl := fun x l u H Q => r1 x l u H Q ∨ r2 x l u H Q
theorem slr_or {X : Cx} {r1 r2 : RSl} (h1 : SlR X r1) (h2 : SlR X r2) : SlR X (rSlOr r1 r2) := by
  intro pins s σ H x v vl vu lo hi sl Q I rx hs pl pu h
  rcases h with h | h
  · exact h1 pins s σ H x v vl vu lo hi sl Q I rx hs pl pu h
  · exact h2 pins s σ H x v vl vu lo hi sl Q I rx hs pl pu h
def eCutA (f : En → Hea → Res Val) (lo hi : Option (En → Hea → Res Val)) : En → Hea → Res Val := fun e h => (f e h).bind fun d h1 => (eOpt lo e h1).bind fun l h2 => (eOpt hi e h2).bind fun u h3 => match d with
  | .tup xs => .ok (.tup (cutL xs l u)) h3
  | d => match lstOf h3 d with
    | some xs => .ok (.lst (cutL xs l u)) h3
    | none => .stuck
theorem Aft.lst {S : Sy} {H : Hp} {ρ : Own} {h : Hea} {xs : List Val} {vs : List V} {Q : VK} {W : XK} (a : Aft S ρ H (.ok (.lst xs) h) Q W) (R : Rel S ρ h H) (r : Reps S ρ H xs vs) (p : Addr) (n : H p = none) : Q (.ref p) (upd H p (.lst vs)) :=
  a ρ (.ref p) _ (.side n) (R.side n) (.lst (R.fz n) upd_same (r.mono (.side n)))
section
variable {T : Tb} {X : Cx} {W : WX} {a : Expr} {lo hi : Option Expr} {f : En → Hea → Res Val} {l u : Option (En → Hea → Res Val)} {p2 pos : Pos}
theorem se_cutA (ha : SE T X W a f) (hl : PO X lo (tO (sy T X) W l)) (hu : PO X hi (tO (sy T X) W u)) : SE T X W (.Subscript a (.Slice lo hi none p2) pos) (eCutA f l u) :=
  (pe_slice (slr_or L2.sl_tupS L2.sl_list) ha hl hu).imp fun σ H Q q => by
    obtain ⟨ρ, e, h, R, E, a⟩ := q
    unfold eCutA at a
    refine ⟨ρ, e, h, R, E, a.bind.mono fun v H1 ⟨ρ1, d, h1, s, R1, r1, a1⟩ => ⟨ρ1, e, h1, R1, E.go s, (AftO.bind a1).mono fun lv H2 ⟨ρ2, h2, s2, R2, a2⟩ => ⟨ρ2, e, h2, R2, (E.go s).go s2, (AftO.bind a2).mono fun uv H3 ⟨ρ3, h3, s3, R3, a3⟩ => ?_⟩⟩⟩
    have r3 := (r1.go s2).go s3
    split at a3
    · rename_i xs
      cases r3 with
      | tup ht hr =>
        refine .inl ⟨_, _, rfl, ht.sq, fun hw => ?_, fun hw => ?_⟩
        · rw [← hr.length] at hw
          rw [cutL_whole hw] at a3
          exact a3.same R3 (.tup ht hr)
        · exact a3.tup R3 (hr.slc lv uv)
    · split at a3
      · rename_i xs hx
        obtain ⟨p, vs, ev, sq, rr⟩ := R3.lstV r3 hx
        exact .inr ⟨p, vs, ev, sq, fun l n => a3.lst R3 (rr.slc lv uv) l n⟩
      · exact a3.elim
end
end Lad
end
section
set_option maxRecDepth 100000
set_option maxHeartbeats 1000000
namespace Lad
open PySem L2
end Lad
end
section
set_option maxRecDepth 100000
set_option maxHeartbeats 1000000
namespace Lad
open PySem L2
end Lad
end
section
set_option maxRecDepth 100000
namespace Lad
open PySem L2
end Lad
end
section
set_option maxRecDepth 100000
namespace Lad
open PySem L2
end Lad
end
section
set_option maxRecDepth 100000
set_option maxHeartbeats 2000000
namespace L2
open PySem PySem.Spec PyProof.Rows
end L2
namespace Lad
open PySem L2
end Lad
end
section
set_option maxRecDepth 100000
set_option maxHeartbeats 2000000
namespace Lad
open PySem L2 PySem.Spec PyProof.Rows
def isTL : List Val → Bool
  | [.tup _, .lst _] => true
  | _ => false
def isLT : List Val → Bool
  | [.lst _, .tup _] => true
  | _ => false
theorem isTL_inv : ∀ {ds : List Val}, isTL ds = true → ∃ xs ys, ds = [.tup xs, .lst ys]
  | [.tup xs, .lst ys], _ => ⟨xs, ys, rfl⟩
theorem isLT_inv : ∀ {ds : List Val}, isLT ds = true → ∃ xs ys, ds = [.lst xs, .tup ys]
  | [.lst xs, .tup ys], _ => ⟨xs, ys, rfl⟩
def zipTwo : List Val → List Val
  | [.tup xs, .lst ys] => zipV xs ys
  | [.lst xs, .tup ys] => zipV xs ys
  | _ => []
/-- zip of one of each -/
def iZipX (q : List Val → Bool) (f : En → Hea → Res (List Val)) : En → Hea → Res Src := fun e h => (f e h).bind fun ds h1 => if q ds = true then .ok (srcFix (zipTwo ds)) h1 else .stuck
def zipK (ds : List Val) (h1 : Hea) : Res Src := match ds with
  | [.lst xs, .lst ys] => .ok (srcFix (zipV xs ys)) h1
  | [.tup xs, .tup ys] => .ok (srcFix (zipV xs ys)) h1
  | [d1, d2] => if ((lstOf h1 d1).isSome && (lstOf h1 d2).isSome) = true then .ok (srcZipL d1 d2) h1 else .stuck
  | _ => .stuck
/-- zip of two lists, of two tuples, of one of each -/
def iZipW (f : En → Hea → Res (List Val)) : En → Hea → Res Src := fun e h => (f e h).bind fun ds h1 => if (isTL ds || isLT ds) = true then .ok (srcFix (zipTwo ds)) h1 else zipK ds h1
section
variable {T : Tb} {X : Cx} {W : WX} {tg a b : Expr} {g : En → Hea → Res (List Val)} {pos p tpos : Pos} {elts : List Expr} {kk : Nat}
theorem si_zipTL (hg : Gl X "zip") (hm : X.mg "zip" = none) (ha : SA T X W [a, b] g) (hs : starEach [a, b] X.env = (false, eval a X.env) :: starEach [b] X.env := by rfl) (hpl : (backTo pos (starEach [b] X.env)).any (·.1) = false := by rfl) :
    SI T X W (.Tuple elts kk tpos) (.Call (.Name "zip" p) [a, b] [] pos) (iZipX isTL g) := (pi_zm .T .L hg hm ha hs hpl).imp fun σ H Q q => by
  obtain ⟨ρ, e, h, R, E, a⟩ := q
  refine ⟨ρ, e, h, R, E, (AftI.bindA a).mono fun v H1 ⟨ρ1, d, h1, s, R1, r, a1⟩ => ?_⟩
  split at a1
  · rename_i hd
    obtain ⟨xs, ys, rfl⟩ := isTL_inv hd
    match v, r with
    | [v1, v2], .cons r1 (.cons r2 .nil) =>
      obtain ⟨p1, us1, rfl, sq1, rr1⟩ := r1.tup_
      cases r2 with
      | lst f2 hl2 rr2 => exact ⟨_, _, _, _, rfl, sq1.sq, .inl (.inl hl2), a1 ρ1 H1 _ .rfl R1 (j_zm (fun _ _ m => m.kp.1 _ _ sq1.sq) (fun _ _ m => .inl (.inl (m.lst f2 hl2))) rr1 rr2)⟩
  · exact a1.elim
theorem si_zipLT (hg : Gl X "zip") (hm : X.mg "zip" = none) (ha : SA T X W [a, b] g) (hs : starEach [a, b] X.env = (false, eval a X.env) :: starEach [b] X.env := by rfl) (hpl : (backTo pos (starEach [b] X.env)).any (·.1) = false := by rfl) :
    SI T X W (.Tuple elts kk tpos) (.Call (.Name "zip" p) [a, b] [] pos) (iZipX isLT g) := (pi_zm .L .T hg hm ha hs hpl).imp fun σ H Q q => by
  obtain ⟨ρ, e, h, R, E, a⟩ := q
  refine ⟨ρ, e, h, R, E, (AftI.bindA a).mono fun v H1 ⟨ρ1, d, h1, s, R1, r, a1⟩ => ?_⟩
  split at a1
  · rename_i hd
    obtain ⟨xs, ys, rfl⟩ := isLT_inv hd
    match v, r with
    | [v1, v2], .cons r1 (.cons r2 .nil) =>
      obtain ⟨p2, us2, rfl, sq2, rr2⟩ := r2.tup_
      cases r1 with
      | lst f1 hl1 rr1 => exact ⟨_, _, _, _, rfl, .inl (.inl hl1), sq2.sq, a1 ρ1 H1 _ .rfl R1 (j_zm (fun _ _ m => .inl (.inl (m.lst f1 hl1))) (fun _ _ m => m.kp.1 _ _ sq2.sq) rr1 rr2)⟩
  · exact a1.elim
theorem zipK_eq {e : En} {h : Hea} : iZipV g e h = (g e h).bind zipK := rfl
theorem si_zipW (hg : Gl X "zip") (hm : X.mg "zip" = none) (ha : SA T X W [a, b] g) (hs : starEach [a, b] X.env = (false, eval a X.env) :: starEach [b] X.env := by rfl) (hpl : (backTo pos (starEach [b] X.env)).any (·.1) = false := by rfl) :
    SI T X W (.Tuple elts kk tpos) (.Call (.Name "zip" p) [a, b] [] pos) (iZipW g) := (pi_or (si_zip hg hm ha hs hpl) (pi_or (si_zipTL hg hm ha hs hpl) (si_zipLT hg hm ha hs hpl))).imp fun σ H Q q => by
  obtain ⟨ρ, e, h, R, E, a⟩ := q
  unfold iZipW at a
  cases hf : g e h with
  | ok ds h1 =>
    rw [hf] at a
    simp only [bindOk] at a
    by_cases h2 : isTL ds = true
    · refine .inr (.inl ⟨ρ, e, h, R, E, ?_⟩)
      unfold iZipX
      rw [hf, bindOk, if_pos h2]
      rw [if_pos (by rw [h2]; rfl)] at a
      exact a
    · by_cases h3 : isLT ds = true
      · refine .inr (.inr ⟨ρ, e, h, R, E, ?_⟩)
        unfold iZipX
        rw [hf, bindOk, if_pos h3]
        rw [if_pos (by rw [h3, Bool.or_true])] at a
        exact a
      · refine .inl ⟨ρ, e, h, R, E, ?_⟩
        rw [zipK_eq, hf, bindOk]
        rw [if_neg (by simp [h2, h3])] at a
        exact a
  | exc c d h1 =>
    refine .inl ⟨ρ, e, h, R, E, ?_⟩
    rw [zipK_eq, hf]
    rw [hf] at a
    exact a
  | stuck => rw [hf] at a; exact a.elim
end
end Lad
end
section
set_option maxRecDepth 100000
set_option maxHeartbeats 2000000
namespace Lad
open PySem PySem.Spec PyProof.Rows L2
end Lad
end
section
set_option maxRecDepth 100000
set_option maxHeartbeats 2000000
namespace Lad
open PySem PySem.Spec PyProof.Rows L2
def mergeN (acc : NPs) : NPs → NPs
  | [] => acc
  | p :: r => mergeN (putNk acc p.1 p.2.1 p.2.2) r
theorem NP.merge : ∀ {qs acc : NPs} {xs ys : List (NestedKey × Addr × Value)}, NP acc xs → NP qs ys → NP (mergeN acc qs) (storedAllH xs ys)
  | _, _, _, _, a, .nil => a
  | q :: qs, acc, xs, y :: ys, a, .cons h t => by
    show NP (mergeN (putNk acc q.1 q.2.1 q.2.2) qs) (storedAllH (storedH xs y.1 y.2.1 y.2.2) ys)
    rw [← h.1, ← h.2.1]
    exact NP.merge (a.put q.1 q.2.1 h.2.2) t
theorem length_mergeN : ∀ (qs acc : NPs), (mergeN acc qs).length ≤ acc.length + qs.length
  | [], acc => by simp [mergeN]
  | q :: qs, acc => by
    have := length_mergeN qs (putNk acc q.1 q.2.1 q.2.2)
    have := length_putNk acc q.1 q.2.1 q.2.2
    show (mergeN (putNk acc q.1 q.2.1 q.2.2) qs).length ≤ _
    rw [List.length_cons]; omega
theorem carriesN {X : Cx} {h : Heap} : ∀ {qs : NPs} {ws : List (Value × Value)}, VV (qs.map fun q => (V.ref q.2.1, q.2.2)) ws → (∀ q ∈ qs, (NE X).is h q.1 q.2.1) → ∃ ys, CarriesH (NE X) h ws ys ∧ NP qs ys
  | [], _, r, _ => by cases r; exact ⟨[], True.intro, .nil⟩
  | q :: qs, _, r, w => by
    rw [List.map_cons] at r
    cases r with
    | @cons a b as bs hh t =>
      obtain ⟨ys, c, np⟩ := carriesN (X := X) t fun z hz => w z (List.mem_cons_of_mem _ hz)
      obtain ⟨b1, b2⟩ := b
      exact ⟨(q.1, q.2.1, b2) :: ys, ⟨hh.1, rfl, w q List.mem_cons_self, c⟩, .cons ⟨rfl, rfl, hh.2⟩ np⟩
def tDispN (X : Cx) (trs : List (TE × TE)) : TE := fun σ H Q => ∀ p, H p = none → tPairs trs σ (upd H p (dnO X.prog X.w p [])) fun ps H2 => H2 p = some (dnO X.prog X.w p []) ∧
  ∃ qs : NPs, ps = qs.map (fun q => (.ref q.2.1, q.2.2)) ∧ qs.length ≤ 15 ∧ (∀ pins σ s, Inv X pins σ H2 s → ∀ q ∈ qs, (NE X).is s.heap q.1 q.2.1) ∧ Q (.ref p) (upd H2 p (dnO X.prog X.w p (mergeN [] qs)))
theorem pe_dispN {X : Cx} {pos : Pos} {keys : List (Option Expr)} {values : List Expr} {trs : List (TE × TE)} (hu : X.A.units + 20 < cLine) (h : PPs X pos keys values trs) (hall : keys.all (·.isSome) = true) (hl : keys.length = values.length) (h0 : keys ≠ []) (h15 : keys.length ≤ 15) :
    PE X (.Dict keys values pos) (tDispN X trs) := by
  refine ⟨fun pins s σ H Q I q => ?_⟩
  have hn := I.hok.fresh (Nat.le_refl s.heap.objs.size)
  have hm : (s.heap.objs.size == sysModules) = false := beq_eq_false_iff_ne.mpr (Nat.ne_of_gt I.big)
  have dd0 : (s.heap.push { cls := .type "dict", data := .dict #[] }).DictOfH (NE X) s.heap.objs.size [] := Heap.DictOfH.new s.heap
  have I1 := I.laid (a := s.heap.objs.size) (o := dnO X.prog X.w s.heap.objs.size []) (h' := s.heap.push { cls := .type "dict", data := .dict #[] }) (t' := s.toks) (fun _ _ q => Heap.get?_push_of_some _ q) (Nat.le_refl _) (dn_new (Nat.zero_le _) hm .nil dd0)
  have ln := pairTrees_length keys values X.env pos hall hl
  rw [arm_eval_Dict, zip_pairTrees keys values X.env pos hall hl, dictDisplay_pairs _ (fun e => h0 (List.eq_nil_of_length_eq_zero (by rw [← ln, e]; rfl))) (by omega)]
  refine wpAny_bind (wpAny_standAt (wpAny_bind (wpAny_subDictH (knd := NE X) (show X.A.units + 8 < cLine by omega) (by omega) ?_)))
  refine thn (h.run pins _ σ _ _ I1 (q _ hn)) fun ws s2 ⟨ps, H2, I2, rel, e, qs, ep, lq, kq, q2⟩ => ?_
  subst ep
  obtain ⟨ys, c, np⟩ := carriesN rel (kq _ _ _ I2)
  obtain ⟨_, hd, xs, np0, dd⟩ := dn_dict I2 (.inl e) (fun _ h => nomatch h)
  cases np0
  refine ⟨ys, c, dd, fun h' tk dd' hs => wpAny_pure ⟨.ref s.heap.objs.size, _, ?_, Eq.refl _, q2⟩⟩
  have hz : (mergeN [] qs).length ≤ sizeLine := by
    have := length_mergeN qs []
    rw [List.length_nil] at this
    rw [sizeLine_eq]; omega
  have he : ∃ q, h'.get? s.heap.objs.size = some q := let ⟨q, _, _, hq, _⟩ := dd'; ⟨q, hq⟩
  exact d_write I2 (by rw [e]; exact True.intro) hs he (dn_new hz hd (NP.merge .nil np) dd')
def mergeNv (acc : List (Val × Val)) : List (Val × Val) → List (Val × Val)
  | [] => acc
  | p :: r => mergeNv (putNv p.1 p.2 acc) r
def dispNOk (l : List (Val × Val)) : Bool := decide (l.length ≤ 15) && l.all fun p => (toNK p.1).isSome
/-- to be changed -/
def eDispNK (fs : List FF) : En → Hea → Res Val := fun e h => (dPrs fs e h).bind fun l h1 => if dispNOk l = true then .ok (.ref h1.length) (h1 ++ [.dcT (mergeNv [] l)]) else .stuck
section
variable {S : Sy} {ρ : Own} {H : Hp}
theorem KvN.merge : ∀ {l acc : List (Val × Val)} {qs as : NPs}, KvN S ρ H acc as → KvN S ρ H l qs → KvN S ρ H (mergeNv acc l) (mergeN as qs)
  | _, _, _, _, a, .nil => a
  | _, _, _, _, a, .cons r e q t => (a.put r e q).merge t
theorem prs_keysN {l : List (Val × Val)} {ps : List (V × V)} (c : (l.all fun p => (toNK p.1).isSome) = true) (t : Prs S ρ H l ps) : ∃ qs : NPs, ps = qs.map (fun q => (V.ref q.2.1, q.2.2)) ∧ KvN S ρ H l qs := by
  induction t with
  | nil => exact ⟨[], rfl, .nil⟩
  | cons r1 r2 t ih =>
    rw [List.all_cons, Bool.and_eq_true] at c
    obtain ⟨k, hk⟩ := Option.isSome_iff_exists.mp c.1
    obtain ⟨qs, e, q⟩ := ih c.2
    obtain ⟨b, rfl⟩ := toNK_ref hk r1
    exact ⟨(k, b, _) :: qs, by rw [e]; rfl, .cons r1 hk r2 q⟩
end
section
variable {T : Tb} {X : Cx} {W : WX} {pos : Pos} {keys : List (Option Expr)} {values : List Expr} {fs : List FF}
theorem dispN_imp {σ : L2.St} {H : Hp} {Q : VK} {l : List (Val × Val)} {h h1 : Hea} {e : En} {ρ : Own} (hp : dPrs fs e h = .ok l h1) (hd : dispNOk l = true) (R : Rel (sy T X) ρ h H) (E : ER (sy T X) ρ H e σ)
    (a : ∀ (ρ1 : Own) (H1 : Hp) (p : Addr) (qs : NPs), Hid (sy T X) ρ H p (dnO X.prog X.w p qs) ρ1 h1 H1 → KvN (sy T X) ρ1 H1 (mergeNv [] l) qs → Q (.ref p) H1) : tDispN X (fs.map fun p => (tE (sy T X) W p.1, tE (sy T X) W p.2)) σ H Q := by
  intro p np
  have M := Hid.start (o := dnO X.prog X.w p []) R np
  unfold dispNOk at hd
  rw [Bool.and_eq_true] at hd
  refine pairs_ok fs hp M.R (E.mono M.mv) fun ρ2 ps H2 s2 R2 r2 => ?_
  have M2 := M.go s2 R2
  obtain ⟨qs, e1, q⟩ := prs_keysN hd.2 r2
  obtain ⟨M3, m3⟩ := M2.put (o' := dnO X.prog X.w p (mergeN [] qs)) True.intro
  have hl : qs.length ≤ 15 := by rw [← q.length]; exact of_decide_eq_true hd.1
  exact ⟨M2.at_, qs, e1, hl, fun _ _ _ I => q.is I, a _ _ _ _ M3 ((KvN.merge .nil q).mono m3)⟩
theorem se_dispNK (hu : X.A.units + 20 < cLine) (h : SPs T X W pos keys values fs) (hall : keys.all (·.isSome) = true := by rfl) (hl : keys.length = values.length := by rfl) (h0 : keys ≠ [] := by intro h; cases h) (h15 : keys.length ≤ 15 := by decide) : SE T X W (.Dict keys values pos) (eDispNK fs) :=
  (pe_dispN hu h hall hl h0 h15).imp fun σ H Q q => by
    obtain ⟨ρ, e, h, R, E, a⟩ := q
    obtain ⟨l, h1, hp, a⟩ := Aft.bindP (dPrs_no fs e h) a
    split at a
    · rename_i hd
      refine dispN_imp hp hd R E fun ρ1 H1 p qs M q => ?_
      exact a (Own.add ⟨ρ1.nm, ρ.hd⟩ p) (.ref p) H1 (M.g.adopt M.z) (M.held (.dcT M.at_ (q.mono M.mvHeld))) (.ref (by rw [M.R.len]; exact add_at (ρ := ⟨ρ1.nm, ρ.hd⟩)))
    · exact a.elim
end
end Lad
end
section
set_option maxRecDepth 100000
set_option maxHeartbeats 2000000
namespace Lad
open PySem PySem.Spec PyProof.Rows L2
end Lad
end
section
set_option maxRecDepth 100000
set_option maxHeartbeats 2000000
namespace Lad
open PySem PySem.Spec PyProof.Rows L2
open PySem.W (Frag)
end Lad
end
section
namespace Lad
open PySem L2
def sStuck : En → Hea → SRes := fun _ _ => .stuck
end Lad
end
section
set_option maxRecDepth 100000
set_option maxHeartbeats 1000000
namespace Lad
open PySem L2
end Lad
end
section
set_option maxRecDepth 100000
set_option maxHeartbeats 2000000
namespace Lad
open PySem L2
open PySem.W (Frag)
/-- as FnOk, for calls where it is known that nothing is being shown -/
structure FnG (P : Program) (w : World) (K : Frag) (mg : Str → Option Value) (base : Heap) (CX : CXT) (k : Nat) (f : Addr) (fd : FuncData) (ps : List Str) (sp : Sp) : Prop where
  len : ∀ vs H Q E, sp vs H Q E → vs.length = ps.length
  go : ∀ (A : Around) (outer : List Env) (s : Shared) (H : Hp) (args : Args) (us : List Value) (vs : List V) (Q : VK) (E : XK), Room k A → A.guards = some [] → Env0 P w K mg base A outer s H →
    BindsTo s fd args (ps.zip us) → Vals vs us → sp vs H Q E → codeAny (model P w) A (.call (.ref f) args) (CR CX outer P w H s Q E) s
/-- a def by its body -/
theorem fnG_of {P : Program} {w : World} {K : Frag} {mg : Str → Option Value} {base : Heap} {x qual : Str} {st : Stmt} {f : Addr} {fd : FuncData} {N ps : List Str} {k : Nat} {sp : Sp}
    (F : Fun K x qual st f fd) (S : FnScope N ps (defScope st)) (hlen : ∀ vs H Q E, sp vs H Q E → vs.length = ps.length)
    (body : ∀ (cdv : Value) (A : Around) (outer : List Env) (s : Shared) (H : Hp) (vs : List V) (Q : VK) (E : XK), Room k (A.deeper (PyProof.Rows.envOfC qual (defScope st) s.heap.objs.size f cdv)) → A.guards = some [] → sp vs H Q E →
      ∃ t, PSs (cxOf (L2.CX P w) P w K mg base N qual (defScope st) f cdv A outer s H E) (defBody st) t ∧ t { nx := fun _ H' => Q .non H', rt := Q } (start N vs) H) :
    FnG P w K mg base (L2.CX P w) (k + 1) f fd ps sp := by
  obtain ⟨oc, od, kV, doc, pm, an, cdv, ct, osl, rfl, lk, hcd⟩ := F.ex
  refine ⟨hlen, ?_⟩
  intro A outer s H args us vs Q E room hgd env0 bind rel hsp
  have stay : ∀ b o, base.get? b = some o → s.heap.get? b = some o := fun b o e => (env0.bs b o e).1
  have hK : K.In s.heap := env0.mod.kin.keeps stay
  have noLim : s.heap.NoLimit := env0.mod.nolimit.keeps stay
  have kinds : ∀ y ∈ ps.zip us, (defScope st).names.lookup y.1 = some .local ∨ ((defScope st).names.lookup y.1 = some .cell ∧ ((cellsFrom (s.heap.objs.size + 1) (defScope st).names []).lookup y.1).isSome = true) := by
    rintro ⟨n, v⟩ hy
    rcases S.par n (List.of_mem_zip hy).1 with q | q
    · exact Or.inl q
    · exact Or.inr ⟨q, PySem.W.cellsFrom_some _ _ _ (Or.inl q)⟩
  refine codeAny_call_function room.depth (hK _ _ lk) rfl S.co S.gen rfl (PySem.W.codeRec_of hK hcd) (bind _ _ _ _ ?_)
  refine wpAny_newFunctionEnv_cells S.kind kinds ?_
  intro env he s1 inC
  subst he
  refine ⟨noLim.keeps inC.toInCall.keep, codeAny_func ?_⟩
  obtain ⟨t, ht, hq⟩ := body cdv A outer s H vs Q E (room.deeper _) hgd hsp
  have I0 : Inv (cxOf (L2.CX P w) P w K mg base N qual (defScope st) f cdv A outer s H E) [] (start N vs) H s1 := inv_start S room.hd env0 (hlen _ _ _ _ hsp) rel inC
  refine wpAny_mono (ht.run [] s1 (start N vs) H _ I0 hq) ?_ (fun e s' h => h)
  intro fl s' h
  cases fl with
  | ret u =>
    obtain ⟨v, σ', H', J, rv, q⟩ := h
    exact ⟨v, H', J.os, J.bare, J.base, J.hok, rv, q⟩
  | next =>
    obtain ⟨σ', H', J, q⟩ := h
    exact ⟨V.non, H', J.os, J.bare, J.base, J.hok, rfl, q⟩
  | brk => exact h.elim fun _ z => z.elim fun _ z => z.2.elim
  | cont => exact h.elim fun _ z => z.elim fun _ z => z.2.elim
theorem fnG_ok {P : Program} {w : World} {K : Frag} {mg : Str → Option Value} {base : Heap} {T : Tb} {x qual : Str} {st : Stmt} {f : Addr} {fd : FuncData} {N ps : List Str} {k : Nat} {fb : En → Hea → SRes}
    {fn : Hea → Val → Hea → Res Val} (fo : FinOk fn) (F : Fun K x qual st f fd) (Sc : FnScope N ps (defScope st))
    (hb : ∀ (cdv : Value) (A : Around) (outer : List Env) (s : Shared) (H : Hp) (E : XK), Room k (A.deeper (PyProof.Rows.envOfC qual (defScope st) s.heap.objs.size f cdv)) → A.guards = some [] →
      SSs T (cxOf (L2.CX P w) P w K mg base N qual (defScope st) f cdv A outer s H E) (fun c d _ H' => E c d H') (defBody st) fb) :
    FnG P w K mg base (L2.CX P w) (k + 1) f fd ps (spEv ⟨K, T.ca, T.nm, T.fld, P, w, T.ex⟩ (runG fn ps.length N.length fb)) :=
  fnG_of F Sc (fun vs H Q E q => (runB_ok fo q).1) fun cdv A outer s H vs Q E hr hG q => ⟨_, hb cdv A outer s H E hr hG, (runB_ok fo q).2⟩
section
variable {T : Tb} {X : Cx} {W : WX} {x : Str} {f : Addr} {fd : FuncData} {ps : List Str} {k : Nat} {sp : Sp} {cf : List Val → Hea → Res Val} {e : Expr} {es : List Expr} {g : En → Hea → Res (List Val)} {p pos : Pos} {t : TA}
theorem run_G {E : St → XK} {pins : List (Addr × Obj)} {σ : St} {H : Hp} {s : Shared} {Q : VK} {us : List Value} {vs : List V} (F : FnG X.prog X.w X.K X.mg X.base (L2.CX X.prog X.w) k f fd ps sp) (hr : Room k X.A) (hG : X.A.guards = some [])
    (hb : Binds X.K fd ps []) (hx : PassesAt (L2.CX X.prog X.w) X σ (E σ)) (I : Inv X pins σ H s) (r : Vals vs us) (w : sp vs H Q (E σ)) : wpAny (model X.prog X.w) X.A (call (.ref f) us) (EP X pins σ Q) X.xe s := by
  have b := hb s us I.kIn (by rw [List.append_nil, ← r.length]; exact F.len _ _ _ _ w)
  rw [List.append_nil] at b
  have body := F.go X.A X.stack s H ⟨us, []⟩ us vs Q (E σ) hr hG I.env0 b r w
  refine wpAny_call (codeAny_mono body ?_)
  intro res s' hq
  match res with
  | .error e => exact hx pins H s e s' I hq
  | .ok (.ret u) => exact I.after hq
  | .ok .next => exact hq.elim
  | .ok .brk => exact hq.elim
  | .ok .cont => exact hq.elim
theorem pe_callG {E : St → XK} (F : FnG X.prog X.w X.K X.mg X.base (L2.CX X.prog X.w) k f fd ps sp) (hr : Room k X.A) (hG : X.A.guards = some []) (hg : Gl X x) (hm : X.mg x = some (.ref f)) (hk : PySem.W.keepIn X.K (.ref f) = true)
    (hb : Binds X.K fd ps []) (hx : ∀ σ, PassesAt (L2.CX X.prog X.w) X σ (E σ)) (ha : PA X (e :: es) t) (hdb : (x == ("__debug__" : Str)) = false := by decide)
    (he : starEach (e :: es) X.env = (false, eval e X.env) :: starEach es X.env := by rfl) (hpl : (backTo pos (starEach es X.env)).any (·.1) = false := by rfl) :
    PE X (.Call (.Name x p) (e :: es) [] pos) (tCallS sp E t) := by
  constructor
  intro pins s σ H Q I w
  refine wpAny_Call_Name_kw (ld_glob I hg hm ?_ hdb)
  have args := ha.run pos pins s σ H _ I w
  refine PySem.W.callWith_K (h₀ := X.base) I.ok.mod.kin hk (thn args ?_) he hpl
  rintro us s1 ⟨vs, H1, I1, r, q⟩
  exact ⟨I1.kIn, run_G F hr hG hb (hx σ) I1 r q⟩
theorem se_callG (F : FnG X.prog X.w X.K X.mg X.base (L2.CX X.prog X.w) k f fd ps (spEv (sy T X) cf)) (hr : Room k X.A) (hG : X.A.guards = some []) (hg : Gl X x) (hm : X.mg x = some (.ref f)) (hk : PySem.W.keepIn X.K (.ref f) = true) (hb : Binds X.K fd ps []) (tk : Takes X W)
    (ha : SA T X W (e :: es) g) (hdb : (x == ("__debug__" : Str)) = false := by decide) (he : starEach (e :: es) X.env = (false, eval e X.env) :: starEach es X.env := by rfl) (hpl : (backTo pos (starEach es X.env)).any (·.1) = false := by rfl) :
    SE T X W (.Call (.Name x p) (e :: es) [] pos) (eCall cf g) :=
  (pe_callG (E := fun σ => WE W σ) F hr hG hg hm hk hb (fun σ => passAt tk σ) ha hdb he hpl).imp fun σ H Q q => by
    obtain ⟨ρ, e, h, R, E, a⟩ := q
    exact ⟨ρ, e, h, R, E, (AftA.bind a).mono fun vs H1 ⟨ρ1, ds, h1, s, R1, r1, a1⟩ => ⟨ρ1, h1, ds, R1, r1, a1⟩⟩
end
theorem u70 {A : Around} {k : Nat} (hr : Room k A) : A.units + 70 < cLine := by have := hr.un; omega
section
variable {T : Tb} {X : Cx}
theorem call_reprD (hG : X.A.guards = some []) (hu : X.A.units + 70 < cLine) : CallR X (.builtin "repr") (fun xs H Q => ∃ (a : Addr) (d : PyData), xs = [.ref a] ∧ Dp X.K H (.ref a) d ∧ d.showable = true ∧ d.hasDict = false ∧ d.depth ≤ 64 ∧ d.shown.length ≤ sizeLine ∧ Q (.str d.shown) H) := by
  intro pins s σ H xs us Q I r h
  obtain ⟨a, d, rfl, hd, h1, h2, h3, h4, q⟩ := h
  match us, r with
  | [_], .cons rb .nil =>
    cases rb
    obtain ⟨as, rd⟩ := Dp.reads I d (.ref a) (.ref a) hd rfl
    refine repr_of_reads' rd h1 (fun z => by rw [h2] at z; cases z) hG (by omega) (fun _ _ z => z) ?_ h4
    intro h' u tk hk
    exact ⟨.str d.shown, H, I.kept hk, ⟨u, rfl⟩, q⟩
def shOk (d : PyData) : Bool := d.showable && !d.hasDict && decide (d.depth ≤ 64) && decide (d.shown.length ≤ 16777216)
def gReprD (h : Hea) (ds : List Val) : Option Val := match gReprB h ds with
  | some v => some v
  | none => match ds with
    | [.tup xs] => match toD 60 h (.tup xs) with
      | some p => if shOk p = true then some (.str p.shown) else none
      | none => none
    | [.lst xs] => match toD 60 h (.lst xs) with
      | some p => if shOk p = true then some (.str p.shown) else none
      | none => none
    | [.ref i] => match toD 60 h (.ref i) with
      | some p => if shOk p = true then some (.str p.shown) else none
      | none => none
    | _ => none
theorem reprD_one {d : Val} {vs : List V} {H : Hp} {Q : VK} {ρ : Own} {h : Hea} (R : Rel (sy T X) ρ h H) (r : Reps (sy T X) ρ H [d] vs) (hv : ∀ v, Rep (sy T X) ρ H d v → ∃ a, v = .ref a)
    (a : Aft (sy T X) ρ H (opt (match toD 60 h d with | some p => if shOk p = true then some (.str p.shown) else none | none => none) h) Q (fun _ _ _ => False)) :
    ∃ (a : Addr) (d : PyData), vs = [.ref a] ∧ Dp X.K H (.ref a) d ∧ d.showable = true ∧ d.hasDict = false ∧ d.depth ≤ 64 ∧ d.shown.length ≤ sizeLine ∧ Q (.str d.shown) H := by
  match vs, r with
  | [v], .cons q .nil =>
    obtain ⟨b, rfl⟩ := hv v q
    cases hp : toD 60 h d with
    | none => rw [hp] at a; exact a.elim
    | some p =>
      rw [hp] at a
      dsimp only at a
      by_cases hs : shOk p = true
      · rw [if_pos hs] at a
        unfold shOk at hs
        simp only [Bool.and_eq_true, Bool.not_eq_true', decide_eq_true_eq] at hs
        exact ⟨b, p, rfl, toD_dp R _ _ _ _ q hp, hs.1.1.1, hs.1.1.2, hs.1.2, hs.2, Aft.same (d := .str _) a R (.str _)⟩
      · rw [if_neg hs] at a; exact a.elim
theorem g_reprD (hG : X.A.guards = some []) (hu : X.A.units + 70 < cLine) : CallR X (.builtin "repr") (rC (sy T X) gReprD) := CallR.imp (CallR.or (g_reprB (T := T)) (call_reprD hG hu)) fun vs H Q h => by
  obtain ⟨ρ, h, ds, R, r, a⟩ := h
  unfold gReprD at a
  cases hb : gReprB h ds with
  | some v =>
    rw [hb] at a
    refine .inl ⟨ρ, h, ds, R, r, ?_⟩
    rw [hb]
    exact a
  | none =>
    rw [hb] at a
    dsimp only at a
    split at a
    · exact .inr (reprD_one R r (fun v q => by cases q; exact ⟨_, rfl⟩) a)
    · exact .inr (reprD_one R r (fun v q => by cases q; exact ⟨_, rfl⟩) a)
    · exact .inr (reprD_one R r (fun v q => by cases q; exact ⟨_, rfl⟩) a)
    · exact a.elim
end
open PySem.Spec PyProof.Rows
/-- the heap with the script alone -/
def hpOf (a : Addr) (vs : List Value) (ns : List Int) : Hp := fun b => if b = a then some (.frz { cls := .type "list", data := .seq vs.toArray } (.lst (ns.map V.int))) else none
theorem hpOf_at {a : Addr} {vs : List Value} {ns : List Int} : hpOf a vs ns a = some (.frz { cls := .type "list", data := .seq vs.toArray } (.lst (ns.map V.int))) := if_pos rfl
theorem hpOf_ne {a b : Addr} {vs : List Value} {ns : List Int} (h : b ≠ a) : hpOf a vs ns b = none := if_neg h
theorem law_G {P : Program} {w : World} {K : Frag} {mg mb : Str → Option Value} {k : Nat} {fa a : Addr} {fd : FuncData} {x : Str} {sp : Sp} {s : Shared} {vs : List Value} {ns : List Int}
    (nl : noList K = true) (KX : K.In s.heap) (hns : s.heap.Ns mainGlobals mg) (hbn : s.heap.Ns builtinsNs mb) (hbb : ∀ x : Str, x ≠ "__name__" → mb x = bootBuiltins x) (hlim : s.heap.NoLimit) (hgn : s.gens = #[])
    (ha : s.heap.get? a = some { cls := .type "list", data := .seq vs.toArray }) (hi : IntsAre vs ns) (hl : ns.length ≤ sizeLine) (hr : Room k callerA)
    (F : ∀ base : Heap, K.In base → base.Ns mainGlobals mg → FnG P w K mg base (L2.CX P w) k fa fd [x] sp) (hbind : ∀ (s : Shared) (u : Value), BindsTo s fd ⟨[u], []⟩ [(x, u)])
    (hsp : ∀ H : Hp, Only H → SqL K H a (ns.map V.int) → sp [.ref a] H (fun v _ => v = .bl true) fun _ _ _ => False) :
    codeAny (model P w) callerA (.call (.ref fa) ⟨[.ref a], []⟩) (fun r s' => r = .ok (.ret (.bool true)) ∧ OldK s.heap s'.heap ∧ s'.os = s.os ∧ AllBare s'.gens) s := by
  have only : Only (hpOf a vs ns) := by
    intro b
    by_cases hb : b = a
    · rw [hb]; exact Or.inr ⟨_, _, hpOf_at⟩
    · exact Or.inl (hpOf_ne hb)
  have track : ∀ {b : Addr} {o : HO}, hpOf a vs ns b = some o → b = a := by
    intro b o e
    by_cases hb : b = a
    · exact hb
    · rw [hpOf_ne hb] at e; cases e
  have hok : HOk P w (hpOf a vs ns) s.heap := by
    intro b u e
    have hb := track e
    subst hb
    rw [hpOf_at] at e
    cases e
    exact ⟨ha, by rw [List.length_map]; exact hl, vs, _, vals_ints hi, ha⟩
  have keep : ∀ {b : Addr} {o : Obj}, s.heap.get? b = some o → b ≠ a → (hidT s.heap (hpOf a vs ns)).get? b = some o := fun e n => hidT_get e (hpOf_ne n)
  have nsOk : ∀ {b : Addr} {m : Str → Option Value}, s.heap.Ns b m → (hidT s.heap (hpOf a vs ns)).Ns b m := by
    rintro b m ⟨o, es, ep, e, d, r⟩
    refine ⟨o, es, ep, keep e ?_, d, r⟩
    rintro rfl
    rw [ha] at e
    cases e
    cases (show Data.seq vs.toArray _ = Data.dict es ep from d)
  have inOk : K.In (hidT s.heap (hpOf a vs ns)) := by
    intro b o e
    refine keep (KX b o e) ?_
    rintro rfl
    have z := KX b o e
    rw [ha] at z
    cases z
    exact noList_ok nl e rfl
  have modOk : Mod K mg (hidT s.heap (hpOf a vs ns)) := by
    obtain ⟨mc, q1, q2⟩ := hlim
    exact ⟨inOk, nsOk hns, ⟨mb, nsOk hbn, hbb⟩, ⟨mc, nsOk q1, q2⟩⟩
  have env : Env0 P w K mg (hidT s.heap (hpOf a vs ns)) callerA [] s (hpOf a vs ns) :=
    ⟨rfl, modOk, fun b o e => of_hidT e, Nat.le_of_eq (hidT_size _ _), trivial, fun b hb => (List.not_mem_nil hb).elim, hok, .of_eq hgn⟩
  have told := (F _ inOk (nsOk hns)).go callerA [] s (hpOf a vs ns) ⟨[.ref a], []⟩ [.ref a] [.ref a] _ _ hr rfl env (hbind s (.ref a)) (.cons rfl .nil) (hsp _ only (.inl (.inr ⟨_, hpOf_at⟩)))
  refine codeAny_mono told ?_
  intro res s' h
  match res with
  | .error e =>
    obtain ⟨_, _, _, _, _, _, _, _, _, _, _, _, z⟩ := h
    exact z.elim
  | .ok .next => exact h.elim
  | .ok .brk => exact h.elim
  | .ok .cont => exact h.elim
  | .ok (.ret u) =>
    obtain ⟨v, H', os, bare, un, hok', rv, q⟩ := h
    have q : v = .bl true := q
    subst q
    obtain rfl : u = Value.bool true := rv
    refine ⟨rfl, OldK.of_keep ?_, os, bare⟩
    intro b o e
    by_cases hb : b = a
    · subst hb
      have z2 := un.frzs b _ _ hpOf_at
      obtain ⟨e2, _⟩ := hok' b _ z2
      rw [ha] at e
      cases e
      exact e2
    · exact un.keep b o e (hpOf_ne hb) (fun z => (List.not_mem_nil z).elim) (by simp)
theorem walk_G {l : PySem.W.OpenLaw} {n k : Nat} {q : Program} {loose : List Str} {XP : (Str → Option Value) → Heap → Prop} {YP : World → Heap → Prop} {d : DefRec} {x : Str}
    (hn : l.most = some n) (hn2 : n ≤ sizeLine) (hdf : d.params.defaults = []) (hr : Room k callerA)
    (F : ∀ (w : World) (mg : Str → Option Value) (f : Addr) (h : Heap), YP w h → h.Ns mainGlobals mg → mg d.name = some (.ref f) →
      ∃ (K : Frag) (fd : FuncData) (sp : Sp), noList K = true ∧ K.In h ∧ (∀ (s : Shared) (u : Value), BindsTo s fd ⟨[u], []⟩ [(x, u)]) ∧
        (∀ (H : Hp) (a : Addr) (ns : List Int), ns.length ≤ n → Only H → SqL K H a (ns.map V.int) → sp [.ref a] H (fun v _ => v = .bl true) fun _ _ _ => False) ∧
        ∀ base : Heap, K.In base → base.Ns mainGlobals mg → FnG l.prog w K mg base (L2.CX l.prog w) k f fd [x] sp) :
    PySem.W.WalkO q loose XP YP l.row.toRowW d [] (fun f vs => PySem.call f vs) := by
  refine Att.attach_call hn hdf ?_
  intro w sA sB mg mb f o pm cd doc a vs ns G Y ho hd hcd hmg hobj hints hlen hgn
  have z := F w mg f _ Y G.T.g hmg
  obtain ⟨K, fd, sp, nl, hK, bind, told, keeps⟩ := z
  exact law_G nl hK G.T.g G.T.b G.T.builtins G.T.nolimit hgn hobj hints (Nat.le_trans hlen hn2) hr keeps bind fun H only sq => told H a ns hlen only sq
end Lad
end
section
set_option maxRecDepth 100000
set_option maxHeartbeats 200000
namespace Lad
open PySem L2
def rI (o : Int → Int → Int) : V → V → Hp → VK → Prop := fun x y H Q => ∃ i j, x = .int i ∧ y = .int j ∧ Q (.int (o i j)) H
end Lad
end
section
set_option maxRecDepth 100000
set_option maxHeartbeats 2000000
namespace Lad
open PySem L2
def sFldAug (ok : Nat → Bool) (n : Nat) (o : Int → Int → Int) (fo fv : En → Hea → Res Val) : En → Hea → SRes := fun e h => ofR ((fo e h).bind fun ob h1 => match ob with
  | .ref i => match h1[i]? with
    | some (.ins c fs) => if ok c = true then (match lkF fs n with
      | some (.int x) => (fv e h1).bind fun v h2 => match v, h2[i]? with
        | .int y, some (.ins c2 fs2) => if c2 = c ∧ fs2.length < 1000 then (match putN n (.int (o x y)) fs2 with
          | some gs => .ok Val.non (h2.set i (.ins c2 gs))
          | none => .stuck) else .stuck
        | _, _ => .stuck
      | _ => .stuck) else .stuck
    | _ => .stuck
  | _ => .stuck) e fun _ h3 => .nx e h3
section
variable {T : Tb} {X : Cx} {W : WX} {a b : Expr} {f g : En → Hea → Res Val} {pos pos' : Pos} {ok : Nat → Bool} {n : Nat} {fn : Str} {op : Operator} {o : Int → Int → Int}
theorem st_fldaug (nk : NmOk T) (hn : n < 100) (hf : T.nm n = fn) (hok : ∀ c, ok c = true → Cls X.K (T.ca c) ∧ NoAttr X.K (T.ca c) fn) (ho : SE T X W a f) (hv : SE T X W b g) (hop : InOp X op (rI o)) : SSt T X W (.AugAssign (.Attribute a fn pos') op b pos) (Lad.sFldAug ok n o f g) :=
  (ps_fldaug ho hv hop).imp fun D σ H q => by
    obtain ⟨ρ, e, h, R, E, a⟩ := q
    unfold Lad.sFldAug at a
    have a := (AftS.ofR a E).bind
    refine ⟨ρ, e, h, R, E, a.mono fun ov H1 ⟨ρ1, od, h1, s1, R1, r1, a1⟩ => ?_⟩
    split at a1
    · rename_i i
      split at a1
      · rename_i c fs hx
        obtain ⟨p, rfl, ep⟩ := r1.ref_
        split at a1
        · rename_i hc
          have ob := R1.ob _ _ _ hx ep
          cases ob with
          | @ins _ _ vs _ dx hi hfs =>
            split at a1
            · rename_i x hd
              obtain ⟨v, e1, e2⟩ := FsR.look (S := sy T X) nk hn hfs hd
              obtain rfl := e2.int_
              refine ⟨p, _, dx, vs, _, rfl, hi, (hok c hc).1, (hok c hc).2, by rw [← hf]; exact e1, ρ1, e, h1, R1, E.go s1, a1.bind.mono fun z H2 ⟨ρ2, vd, h2, s2, R2, r2, a2⟩ => ?_⟩
              split at a2
              · rename_i y c2 fs2 hx2
                obtain rfl := r2.int_
                have ep2 := (Rep.ref (S := sy T X) (H := H1) ep |>.go s2).ref_
                obtain ⟨p2, ee, ep2⟩ := ep2
                cases ee
                split at a2
                · rename_i hc2
                  split at a2
                  · rename_i gs hg
                    have ob2 := R2.ob _ _ _ hx2 ep2
                    cases ob2 with
                    | @ins _ _ vs2 _ dx2 hi2 hfs2 =>
                      have hl := hfs2.length
                      rw [hc2.1] at hi2
                      refine ⟨x, y, rfl, rfl, dx2, vs2, hi2, by omega, ?_⟩
                      have kp : Mv (sy T X) ρ2 H2 ρ2 (upd H2 p (.ins (T.ca c) dx2 (putF (T.nm n) (.int (o x y)) vs2))) := .put ep2 hi2 True.intro
                      have R4 := R2.put (o := .ins (T.ca c) dx2 (putF (T.nm n) (.int (o x y)) vs2)) (ob := .ins c2 gs) ep2 hi2 True.intro (by rw [hc2.1]; exact .ins upd_same ((FsR.put (S := sy T X) nk hn (.int _) hfs2 hg).mono kp))
                      have g4 : Go (sy T X) ρ2 H2 ρ2 (upd H2 p (.ins (T.ca c) dx2 (putF (T.nm n) (.int (o x y)) vs2))) := .put ep2 hi2 True.intro
                      obtain ⟨ρ5, d5, h5, s5, R5, r5, E5, a5⟩ := a2 ρ2 .non _ g4 R4 .non
                      rw [← hf]
                      exact a5 ρ5 σ _ .rfl R5 E5
                  · exact a2.elim
                · exact a2.elim
              · exact a2.elim
            · exact a1.elim
        · exact a1.elim
      · exact a1.elim
    · exact a1.elim
end
end Lad
end
section
namespace Lad
open PySem L2
def finI (_ : Hea) (d : Val) (h : Hea) : Res Val := .ok d h
theorem finI_ok : FinOk finI := fun _ _ _ _ _ _ _ _ _ a => a
abbrev eMakeI := eMakeG finI
end Lad
end
section
namespace Lad
open PySem L2
theorem ss_stuck {T : Tb} {X : Cx} {W : WX} {ss : List Stmt} : SSs T X W ss sStuck := ⟨fun pins s σ H Q I q => by
  obtain ⟨ρ, e, h, R, E, a⟩ := q
  exact a.elim⟩
end Lad
end
section
set_option maxRecDepth 100000
set_option maxHeartbeats 2000000
namespace L2
open PySem PySem.Spec PyProof.Rows
end L2
namespace Lad
open PySem PySem.Spec PyProof.Rows L2
def gStr (_ : Hea) (ds : List Val) : Option Val := match ds with
  | [.int i] => if i.natAbs.log2 < 1920 then some (.str (Str.ofString (toString i))) else none
  | [.str z] => some (.str z)
  | _ => none
section
variable {T : Tb} {X : Cx}
theorem call_strIS : CallR X (.type "str") fun xs H Q => (∃ i, xs = [V.int i] ∧ i.natAbs.log2 < 1920 ∧ Q (.str (Str.ofString (toString i))) H) ∨ (∃ z, xs = [V.str z] ∧ Q (.str z) H) := by
  rintro pins s σ H xs us Q I r (h | h)
  · exact call_str_int pins s σ H xs us Q I r h
  · exact SkE.call_str_str pins s σ H xs us Q I r h
theorem g_str : CallR X (.type "str") (rC (sy T X) gStr) := CallR.imp call_strIS fun vs H Q h => by
  obtain ⟨ρ, h, ds, R, r, a⟩ := h
  unfold gStr at a
  split at a
  · split at a
    · rename_i hl
      obtain rfl := Reps.ints (ns := [_]) r
      exact .inl ⟨_, rfl, hl, Aft.same (d := .str _) a R (.str _)⟩
    · exact a.elim
  · obtain rfl := Reps.strs (ns := [_]) r
    exact .inr ⟨_, rfl, Aft.same (d := .str _) a R (.str _)⟩
  · exact a.elim
end
end Lad
end
section
set_option maxRecDepth 100000
set_option maxHeartbeats 1000000
namespace K81
open PySem L2 Lad
def b_is_whole : En → Hea → SRes := (sRet (eAnd (eUn (oIsi [.int]) (eVar 0)) (eUn oNot (eUn (oIsi [.bool]) (eVar 0)))))
def c_is_whole : List Val → Hea → Res Val := runB 1 1 b_is_whole
def b_row_at : En → Hea → SRes := (sRet (eBin oIx (eLst (lComp [2] (iSeq (eVar 0)) (gN 2) (eBin oLe (eBin oIx (eVar 2) (eC (.int 0))) (eVar 1)) (eVar 2))) (eUn oNeg (eC (.int 1)))))
def c_row_at : List Val → Hea → Res Val := runB 2 3 b_row_at
def b_is_result : En → Hea → SRes := (sRet (eAnd (eUn (oIsi [.str]) (eVar 0)) (eBin oIn (eVar 0) (eC k_RESULTS))))
def c_is_result : List Val → Hea → Res Val := runB 1 1 b_is_result
def b__law_pool : En → Hea → SRes := (sSeq (sSet 2 (eIf (eBin oLt (eVar 1) (eIt gLen (eVar 0))) (eCB gMax2 (aCons (eCB gInt (aCons (eBin oIx (eVar 0) (eVar 1)) aNil)) (aCons (eCB gInt (aCons (eBin oSub (eUn oNeg (eC (.int 1))) (eBin oIx (eVar 0) (eVar 1))) aNil)) aNil))) (eC (.int 7))))
  (sSeq (sSet 3 (eBin oAdd (eBin oMod (eCB gInt (aCons (eBin oMul (eBin oAdd (eBin oMod (eCB gInt (aCons (eVar 2) aNil)) (eC (.int 2147483629))) (eBin oMul (eC (.int 104729)) (eBin oAdd (eVar 1) (eC (.int 1))))) (eC (.int 48271))) aNil)) (eC (.int 2147483629))) (eC (.int 1))))
  (sRet (eNew (lDisp (aCons (eBin oMul (eVar 2) (eCB gInt (aCons (eBin oGe (eVar 2) (eBin oPow (eC (.int 10)) (eC (.int 18)))) aNil))) (aCons (eBin oMod (eCB gInt (aCons (eBin oMul (eVar 3) (eVar 3)) aNil)) (eC (.int 2147483629))) aNil)))))))
def c__law_pool : List Val → Hea → Res Val := runK 2 4 b__law_pool
def b__law_draw : En → Hea → SRes := (sSeq (sIf (eBin oGt (eBin oIx (eVar 0) (eC (.int 0))) (eC (.int 0))) (sSeq (sSet 2 (eBin oMod (eCB gInt (aCons (eBin oIx (eVar 0) (eC (.int 0))) aNil)) (eVar 1)))
  (sSeq (sSetIx (eBin oDiv (eBin oIx (eVar 0) (eC (.int 0))) (eVar 1)) (eVar 0) (eC (.int 0)))
  (sRet (eVar 2)))) sNil)
  (sSeq (sSetIx (eBin oMod (eCB gInt (aCons (eBin oAdd (eBin oMul (eBin oIx (eVar 0) (eC (.int 1))) (eC (.int 48271))) (eC (.int 11))) aNil)) (eC (.int 2147483647))) (eVar 0) (eC (.int 1)))
  (sRet (eBin oMod (eCB gInt (aCons (eBin oDiv (eBin oMod (eCB gInt (aCons (eBin oMul (eBin oIx (eVar 0) (eC (.int 1))) (eBin oIx (eVar 0) (eC (.int 1)))) aNil)) (eC (.int 2147483629))) (eC (.int 16))) aNil)) (eVar 1)))))
def c__law_draw : List Val → Hea → Res Val := runB 2 3 b__law_draw
def l__law_shows_0 : En → Hea → SRes := (sSeq (sAsg (gT [6, 7, 8]) (eBin oIx (eVar 2) (eVar 5)))
  (sSeq (sPar [9, 10] (aCons (eDGet2 (eVar 4) (eVar 6) (eC (.int 0))) (aCons (eDGet2 (eVar 4) (eVar 7) (eC (.int 0))) aNil)))
  (sSeq (sIf (eOr (eBin oEq (eVar 6) (eVar 7)) (eOr (eBin oNe (eVar 9) (eVar 10)) (eBin oNe (eVar 8) (eC (.str "upper"))))) (sRet (eC (.bl false))) sNil)
  (sSeq (sIf (eBin oEq (eVar 9) (eVar 1)) (sRet (eAnd (eBin oEq (eVar 5) (eBin oSub (eIt gLen (eVar 2)) (eC (.int 1)))) (eBin oEq (eVar 3) (eC (.str "ratings"))))) sNil)
  (sPutT [((eVar 4), (eVar 6)), ((eVar 4), (eVar 7))] (eTup (aCons (eBin oAdd (eVar 9) (eC (.int 1))) (aCons (eVar 10) aNil))))))))
def b__law_shows : En → Hea → SRes := (sSeq (sAsg (gT [2, 3]) (eVar 0))
  (sSeq (sSet 4 eD0K)
  (sSeq (sFor (iRng1V (aCons (eIt gLen (eVar 2)) aNil)) (gN 5) l__law_shows_0)
  (sRet (eC (.bl false))))))
def c__law_shows : List Val → Hea → Res Val := runB 2 11 b__law_shows
def b_Book_last_phase : En → Hea → SRes := (sRet (eIf (eBin oGt (eFld (Nat.beq 30) 3 (eVar 0)) (eC (.int 0))) (eFld (Nat.beq 30) 3 (eVar 0)) (eCB gInt (aCons (eBin oGt (eFld (Nat.beq 30) 5 (eVar 0)) (eC (.int 0))) aNil))))
def c_Book_last_phase : List Val → Hea → Res Val := runB 1 1 b_Book_last_phase
def b_Book_moved : En → Hea → SRes := (sSeq (sAsg (gT [4, 5]) (eVar 1))
  (sSeq (sIf (eBin oGt (eFld (Nat.beq 30) 3 (eVar 0)) (eC (.int 0))) (sSeq (sAug 4 (fun i j => i + j) (eIf (eBin oGt (eVar 5) (eC (.int 0))) (eBin oMul (eVar 2) (eFld (Nat.beq 30) 4 (eVar 0))) (eVar 2)))
  (sSet 6 (eCB gMax2 (aCons (eC (.int 0)) (aCons (eBin oSub (eVar 5) (eC (.int 1))) aNil))))) (sSeq (sAug 4 (fun i j => i + j) (eIf (eAnd (eVar 3) (eBin oGt (eVar 5) (eC (.int 0)))) (eBin oAdd (eVar 2) (eFld (Nat.beq 30) 5 (eVar 0))) (eVar 2)))
  (sSet 6 (eCB gInt (aCons (eAnd (eVar 3) (eBin oGt (eFld (Nat.beq 30) 5 (eVar 0)) (eC (.int 0)))) aNil)))))
  (sRet (eTup (aCons (eCB gMin2 (aCons (eCB gInt (aCons (eFld (Nat.beq 30) 1 (eVar 0)) aNil)) (aCons (eCB gMax2 (aCons (eCB gInt (aCons (eFld (Nat.beq 30) 0 (eVar 0)) aNil)) (aCons (eCB gInt (aCons (eVar 4) aNil)) aNil))) aNil))) (aCons (eVar 6) aNil))))))
def c_Book_moved : List Val → Hea → Res Val := runB 4 7 b_Book_moved
def l_Twins_many_games_0 : En → Hea → SRes := (sSeq (sSet 3 (eBin oDGet (eFld (Nat.beq 41) 28 (eVar 0)) (eVar 2)))
  (Lad.sDPut (eIf (eBin oIs (eVar 3) (eC .non)) (eC (.int 0)) (eBin oAdd (eBin oAdd (eC (.int 1)) (eBin oDGet (eVar 1) (eBin oIx (eVar 3) (eC (.int 0))))) (eBin oDGet (eVar 1) (eBin oIx (eVar 3) (eC (.int 1)))))) (eVar 1) (eVar 2)))
def b_Twins_many_games : En → Hea → SRes := (sSeq (sSet 1 eD0T)
  (sSeq (sFor (iSeq (eFld (Nat.beq 41) 27 (eVar 0))) (gN 2) l_Twins_many_games_0)
  (sRet (eVar 1))))
def c_Twins_many_games : List Val → Hea → Res Val := runB 1 4 b_Twins_many_games
def b_is_integer : En → Hea → SRes := (sRet (eAnd (eCall c_is_whole (aCons (eVar 0) aNil)) (eChain oLe oLe (eVar 1) (eVar 0) (eVar 2))))
def c_is_integer : List Val → Hea → Res Val := runB 3 3 b_is_integer
def b_Book_places : En → Hea → SRes := (sSeq (sSet 1 (eLst (lRg1 (eBin oAdd (eMeth 30 7 c_Book_last_phase (eVar 0) aNil) (eC (.int 1))))))
  (sRet (eLst (lComp2 [2, 3] [3] (iRng2V (aCons (eFld (Nat.beq 30) 0 (eVar 0)) (aCons (eBin oAdd (eFld (Nat.beq 30) 1 (eVar 0)) (eC (.int 1))) aNil))) (gN 2) eYes (iSeq (eVar 1)) (gN 3) eYes (eTup (aCons (eVar 2) (aCons (eVar 3) aNil)))))))
def c_Book_places : List Val → Hea → Res Val := runB 1 4 b_Book_places
def b_is_entry : En → Hea → SRes := (sSeq (sIf (eBin oIs (eVar 0) (eC .non)) (sRet (eC (.bl true))) sNil)
  (sRet (eAnd (eUn (oIsi [.tuple]) (eVar 0)) (eAnd (eBin oEq (eIt gLen (eVar 0)) (eC (.int 2))) (eItL gAll (lComp [1] (iSeq (eVar 0)) (gN 1) eYes (eCall c_is_integer (aCons (eVar 1) (aCons (eUn oNeg (eC (.int 9))) (aCons (eC (.int 9)) aNil))))))))))
def c_is_entry : List Val → Hea → Res Val := runB 1 2 b_is_entry
def l_check_rating_0 : En → Hea → SRes := (sIf (eUn oNot (eCall c_is_integer (aCons (eVar 2) (aCons (eFld (Nat.beq 30) 0 (eVar 3)) (aCons (eFld (Nat.beq 30) 1 (eVar 3)) aNil))))) (sRaise 3 (eVar 2)) sNil)
def b_check_rating : En → Hea → SRes := (sFor (iSeq (eTup (aCons (eVar 0) (aCons (eVar 1) aNil)))) (gN 3) l_check_rating_0)
def c_check_rating : List Val → Hea → Res Val := runB 3 4 b_check_rating
def b_Book___len__ : En → Hea → SRes := (sRet (eIt gLen (eMeth 30 6 c_Book_places (eVar 0) aNil)))
def c_Book___len__ : List Val → Hea → Res Val := runB 1 1 b_Book___len__
def b_Book___contains__ : En → Hea → SRes := (sSeq (sIf (eOr (eUn oNot (eUn (oIsi [.tuple]) (eVar 1))) (eBin oNe (eIt gLen (eVar 1)) (eC (.int 2)))) (sRet (eC (.bl false))) sNil)
  (sRet (eAnd (eCall c_is_integer (aCons (eBin oIx (eVar 1) (eC (.int 0))) (aCons (eFld (Nat.beq 30) 0 (eVar 0)) (aCons (eFld (Nat.beq 30) 1 (eVar 0)) aNil)))) (eCall c_is_integer (aCons (eBin oIx (eVar 1) (eC (.int 1))) (aCons (eC (.int 0)) (aCons (eMeth 30 7 c_Book_last_phase (eVar 0) aNil) aNil)))))))
def c_Book___contains__ : List Val → Hea → Res Val := runB 2 2 b_Book___contains__
def b_Book_start : En → Hea → SRes := (sSeq (sIf (eUn oNot (eCall c_is_integer (aCons (eVar 1) (aCons (eFld (Nat.beq 30) 0 (eVar 0)) (aCons (eFld (Nat.beq 30) 1 (eVar 0)) aNil))))) (sRaise 3 (eVar 1)) sNil)
  (sRet (eTup (aCons (eVar 1) (aCons (eFld (Nat.beq 30) 3 (eVar 0)) aNil)))))
def c_Book_start : List Val → Hea → Res Val := runB 2 2 b_Book_start
def b_is_table_row : En → Hea → SRes := (sSeq (sIf (eOr (eUn oNot (eUn (oIsi [.tuple]) (eVar 0))) (eOr (eBin oNe (eIt gLen (eVar 0)) (eC (.int 4))) (eUn oNot (eCall c_is_integer (aCons (eBin oIx (eVar 0) (eC (.int 0))) (aCons (eC (.int 0)) (aCons (eC k_MOST_RATING) aNil))))))) (sRet (eC (.bl false))) sNil)
  (sRet (eItL gAll (lComp [1] (iSeq (eCutA (eVar 0) (some (eC (.int 1))) none)) (gN 1) eYes (eCall c_is_entry (aCons (eVar 1) aNil))))))
def c_is_table_row : List Val → Hea → Res Val := runB 1 2 b_is_table_row
def l_Book_game_0 : En → Hea → SRes := (sIf (eInO 30 true c_Book___contains__ (eVar 4) (eVar 0)) (sRaise 3 (eVar 4)) sNil)
def b_Book_game : En → Hea → SRes := (sSeq (sFor (iSeq (eTup (aCons (eVar 1) (aCons (eVar 2) aNil)))) (gN 4) l_Book_game_0)
  (sSeq (sIf (eUn oNot (eCall c_is_result (aCons (eVar 3) aNil))) (sRaise 4 (eVar 3)) sNil)
  (sSeq (sIf (eBin oGt (eBin oIx (eVar 2) (eC (.int 0))) (eBin oIx (eVar 1) (eC (.int 0)))) (sRaise 4 (eVar 2)) sNil)
  (sSeq (sSet 5 (eBin oIx (eCall c_row_at (aCons (eFld (Nat.beq 30) 2 (eVar 0)) (aCons (eBin oSub (eBin oIx (eVar 1) (eC (.int 0))) (eBin oIx (eVar 2) (eC (.int 0)))) aNil))) (eBin oAdd (eC (.int 1)) (eIdxC ["upper", "draw", "lower"] (eVar 3)))))
  (sSeq (sIf (eBin oIs (eVar 5) (eC .non)) (sRet (eC .non)) sNil)
  (sRet (eTup (aCons (eMeth 30 10 c_Book_moved (eVar 0) (aCons (eVar 1) (aCons (eBin oIx (eVar 5) (eC (.int 0))) (aCons (eBin oEq (eVar 3) (eC (.str "upper"))) aNil)))) (aCons (eMeth 30 10 c_Book_moved (eVar 0) (aCons (eVar 2) (aCons (eBin oIx (eVar 5) (eC (.int 1))) (aCons (eBin oEq (eVar 3) (eC (.str "lower"))) aNil)))) aNil)))))))))
def c_Book_game : List Val → Hea → Res Val := runB 4 6 b_Book_game
def b_is_table : En → Hea → SRes := (sSeq (sIf (eOr (eUn oNot (eUn (oIsi [.list, .tuple]) (eVar 0))) (eUn oNot (eChain oLe oLe (eC (.int 1)) (eIt gLen (eVar 0)) (eC k_MOST_ROWS)))) (sRet (eC (.bl false))) sNil)
  (sSeq (sIf (eOr (eUn oNot (eItL gAll (lComp [1] (iSeq (eVar 0)) (gN 1) eYes (eCall c_is_table_row (aCons (eVar 1) aNil))))) (eBin oNe (eBin oIx (eBin oIx (eVar 0) (eC (.int 0))) (eC (.int 0))) (eC (.int 0)))) (sRet (eC (.bl false))) sNil)
  (sRet (eItL gAll (lComp [2, 3] (iZipW (aCons (eVar 0) (aCons (eCutA (eVar 0) (some (eC (.int 1))) none) aNil))) (gT [2, 3]) eYes (eBin oLt (eBin oIx (eVar 2) (eC (.int 0))) (eBin oIx (eVar 3) (eC (.int 0)))))))))
def c_is_table : List Val → Hea → Res Val := runB 1 4 b_is_table
def l_Twins_take_0 : En → Hea → SRes := (sSeq (sSet 7 (eTup (aCons (eBin oIx (eVar 4) (eVar 6)) (aCons (eBin oIx (eVar 5) (eVar 6)) aNil))))
  (sIf (eBin oDNotIn (eVar 7) (eFld (Nat.beq 41) 28 (eVar 0))) (sSeq (Lad.sDPut (eTup (aCons (eVar 1) (aCons (eVar 2) (aCons (eVar 3) (aCons (eVar 6) aNil))))) (eFld (Nat.beq 41) 28 (eVar 0)) (eVar 7))
  (sEx (eApp (eFld (Nat.beq 41) 27 (eVar 0)) (eVar 7)))) sNil))
def b_Twins_take : En → Hea → SRes := (sSeq (sSet 4 (eMeth 30 11 c_Book_game (eFld (Nat.beq 41) 25 (eVar 0)) (aCons (eBin oIx (eVar 1) (eC (.int 0))) (aCons (eBin oIx (eVar 2) (eC (.int 0))) (aCons (eVar 3) aNil)))))
  (sSeq (sSet 5 (eMeth 30 11 c_Book_game (eFld (Nat.beq 41) 26 (eVar 0)) (aCons (eBin oIx (eVar 1) (eC (.int 1))) (aCons (eBin oIx (eVar 2) (eC (.int 1))) (aCons (eVar 3) aNil)))))
  (sSeq (sIf (eAnd (eBin oIs (eVar 4) (eC .non)) (eBin oIs (eVar 5) (eC .non))) sRetN sNil)
  (sIf (eOr (eBin oIs (eVar 4) (eC .non)) (eBin oIs (eVar 5) (eC .non))) (sFldV (Nat.beq 41) 24 (eVar 0) (eTup (aCons (eVar 1) (aCons (eVar 2) (aCons (eVar 3) (aCons (eC (.str "counts")) aNil)))))) (sIf (eBin oNe (eLst (lComp [8] (iSeq (eVar 4)) (gN 8) eYes (eBin oIx (eVar 8) (eC (.int 0))))) (eLst (lComp [8] (iSeq (eVar 5)) (gN 8) eYes (eBin oIx (eVar 8) (eC (.int 0)))))) (sFldV (Nat.beq 41) 24 (eVar 0) (eTup (aCons (eVar 1) (aCons (eVar 2) (aCons (eVar 3) (aCons (eC (.str "ratings")) aNil)))))) (sFor (iSeq (eTup (aCons (eC (.int 0)) (aCons (eC (.int 1)) aNil)))) (gN 6) l_Twins_take_0))))))
def c_Twins_take : List Val → Hea → Res Val := runB 4 9 b_Twins_take
def b_Book___init__ : En → Hea → SRes := (sSeq (sIf (eUn oNot (eCall c_is_integer (aCons (eVar 1) (aCons (eC (.int 0)) (aCons (eC k_MOST_RATING) aNil))))) (sRaise 2 (eC (.str "low"))) sNil)
  (sSeq (sIf (eUn oNot (eCall c_is_integer (aCons (eVar 2) (aCons (eVar 1) (aCons (eC k_MOST_RATING) aNil))))) (sRaise 2 (eC (.str "high"))) sNil)
  (sSeq (sIf (eUn oNot (eCall c_is_table (aCons (eVar 3) aNil))) (sRaise 2 (eC (.str "table"))) sNil)
  (sSeq (sIf (eUn oNot (eCall c_is_integer (aCons (eVar 4) (aCons (eC (.int 0)) (aCons (eC (.int 2)) aNil))))) (sRaise 2 (eC (.str "fresh"))) sNil)
  (sSeq (sIf (eUn oNot (eCall c_is_integer (aCons (eVar 5) (aCons (eC (.int 1)) (aCons (eIf (eBin oGt (eVar 4) (eC (.int 0))) (eC (.int 3)) (eC (.int 1))) aNil))))) (sRaise 2 (eC (.str "times"))) sNil)
  (sSeq (sIf (eUn oNot (eCall c_is_integer (aCons (eVar 6) (aCons (eC (.int 0)) (aCons (eIf (eBin oEq (eVar 4) (eC (.int 0))) (eC (.int 5)) (eC (.int 0))) aNil))))) (sRaise 2 (eC (.str "bonus"))) sNil)
  (sSeq (sFldV (Nat.beq 30) 0 (eVar 0) (eVar 1))
  (sSeq (sFldV (Nat.beq 30) 1 (eVar 0) (eVar 2))
  (sSeq (sFldV (Nat.beq 30) 2 (eVar 0) (eIt gTuple (eVar 3)))
  (sSeq (sFldV (Nat.beq 30) 3 (eVar 0) (eVar 4))
  (sSeq (sFldV (Nat.beq 30) 4 (eVar 0) (eVar 5))
  (sSeq (sFldV (Nat.beq 30) 5 (eVar 0) (eVar 6))
  (sIf (eBin oGt (eLenO 30 c_Book___len__ (eVar 0)) (eC k_MOST_PLACES)) (sRaise 25 (eC k_MOST_PLACES)) sNil)))))))))))))
def c_Book___init__ : List Val → Hea → Res Val := runB 7 7 b_Book___init__
def l_Twins_look_at_0 : En → Hea → SRes := (sIf (eBin oIs (eFld (Nat.beq 41) 24 (eVar 0)) (eC .non)) (sEx (eMeth 41 31 c_Twins_take (eVar 0) (aCons (eVar 3) (aCons (eVar 4) (aCons (eVar 5) aNil))))) sNil)
def l_Twins_look_at_1 : En → Hea → SRes := (sFor (iSeq (eIf (eBin oLe (eBin oIx (eBin oIx (eVar 4) (eC (.int 0))) (eC (.int 0))) (eBin oIx (eBin oIx (eVar 3) (eC (.int 0))) (eC (.int 0)))) (eC k_RESULTS) (eTup aNil))) (gN 5) l_Twins_look_at_0)
def l_Twins_look_at_2 : En → Hea → SRes := (sFor (iSeq (eTup (aCons (eTup (aCons (eBin oIx (eFld (Nat.beq 41) 27 (eVar 0)) (eVar 1)) (aCons (eBin oIx (eFld (Nat.beq 41) 27 (eVar 0)) (eVar 2)) aNil))) (aCons (eTup (aCons (eBin oIx (eFld (Nat.beq 41) 27 (eVar 0)) (eVar 2)) (aCons (eBin oIx (eFld (Nat.beq 41) 27 (eVar 0)) (eVar 1)) aNil))) aNil)))) (gT [3, 4]) l_Twins_look_at_1)
def b_Twins_look_at : En → Hea → SRes := (sFor (iRng1V (aCons (eBin oAdd (eVar 1) (eC (.int 1))) aNil)) (gN 2) l_Twins_look_at_2)
def c_Twins_look_at : List Val → Hea → Res Val := runB 2 6 b_Twins_look_at
def l_Twins___init___0 : En → Hea → SRes := (sSeq (sEx (eMeth 41 30 c_Twins_look_at (eVar 0) (aCons (eVar 5) aNil)))
  (sAug 5 (fun i j => i + j) (eC (.int 1))))
def b_Twins___init__ : En → Hea → SRes := (sSeq (sFldV (Nat.beq 41) 25 (eVar 0) (eVar 1))
  (sSeq (sFldV (Nat.beq 41) 26 (eVar 0) (eVar 2))
  (sSeq (sSet 4 (eTup (aCons (eMeth 30 9 c_Book_start (eVar 1) (aCons (eVar 3) aNil)) (aCons (eMeth 30 9 c_Book_start (eVar 2) (aCons (eVar 3) aNil)) aNil))))
  (sSeq (sFldV (Nat.beq 41) 27 (eVar 0) (eNew (lDisp (aCons (eVar 4) aNil))))
  (sSeq (sFldV (Nat.beq 41) 28 (eVar 0) (eDispNK [((eVar 4), (eC .non))]))
  (sSeq (sFldV (Nat.beq 41) 24 (eVar 0) (eC .non))
  (sSeq (sFldV (Nat.beq 41) 29 (eVar 0) (eC (.int 0)))
  (sSeq (sSet 5 (eC (.int 0)))
  (sWhile 5000 (eAnd (eBin oIs (eFld (Nat.beq 41) 24 (eVar 0)) (eC .non)) (eBin oLt (eVar 5) (eIt gLen (eFld (Nat.beq 41) 27 (eVar 0))))) l_Twins___init___0)))))))))
def c_Twins___init__ : List Val → Hea → Res Val := runB 4 6 b_Twins___init__
def b_are_alike : En → Hea → SRes := (sSeq (sEx (eCall c_check_rating (aCons (eVar 0) (aCons (eVar 1) (aCons (eVar 2) aNil)))))
  (sRet (eBin oIs (eFld (Nat.beq 41) 24 (eMakeI 41 c_Twins___init__ (aCons (eVar 0) (aCons (eVar 1) (aCons (eVar 2) aNil))))) (eC .non))))
def c_are_alike : List Val → Hea → Res Val := runB 3 3 b_are_alike
def b_Twins_put_games (r_Twins_put_games : List Val → Hea → Res Val) (r_Twins_put_game : List Val → Hea → Res Val) : En → Hea → SRes := (sSeq (sSet 3 (eBin oDGet (eFld (Nat.beq 41) 28 (eVar 0)) (eVar 1)))
  (sSeq (sIf (eBin oIs (eVar 3) (eC .non)) (sRet (eUn oNeg (eC (.int 1)))) sNil)
  (sRet (eBin oIx (eMeth 41 33 r_Twins_put_game (eVar 0) (aCons (eVar 3) (aCons (eVar 2) aNil))) (eBin oIx (eVar 3) (eC (.int 3)))))))
def l_Twins_put_game_0 (r_Twins_put_games : List Val → Hea → Res Val) (r_Twins_put_game : List Val → Hea → Res Val) : En → Hea → SRes := (sSeq (sSet 5 (eMeth 41 34 r_Twins_put_games (eVar 0) (aCons (eVar 4) (aCons (eVar 2) aNil))))
  (sSeq (sIf (eBin oLt (eVar 5) (eC (.int 0))) (sSeq (sSet 5 (eFld (Nat.beq 41) 29 (eVar 0)))
  (Lad.sFldAug (Nat.beq 41) 29 (fun i j => i + j) (eVar 0) (eC (.int 1)))) sNil)
  (sEx (eApp (eVar 3) (eVar 5)))))
def b_Twins_put_game (r_Twins_put_games : List Val → Hea → Res Val) (r_Twins_put_game : List Val → Hea → Res Val) : En → Hea → SRes := (sSeq (sSet 3 (eNew (lDisp aNil)))
  (sSeq (sFor (iSeq (eCutA (eVar 1) none (some (eC (.int 2))))) (gN 4) (l_Twins_put_game_0 r_Twins_put_games r_Twins_put_game))
  (sSeq (sEx (eApp (eVar 2) (eTup (aCons (eBin oIx (eVar 3) (eC (.int 0))) (aCons (eBin oIx (eVar 3) (eC (.int 1))) (aCons (eBin oIx (eVar 1) (eC (.int 2))) aNil))))))
  (sRet (eTup (aCons (eBin oIx (eVar 3) (eC (.int 0))) (aCons (eBin oIx (eVar 3) (eC (.int 1))) aNil)))))))
def cz_Twins_put_games : Nat → (List Val → Hea → Res Val) × (List Val → Hea → Res Val)
  | 0 => (runB 3 4 sStuck, runB 3 6 sStuck)
  | n + 1 => (runB 3 4 (b_Twins_put_games ((cz_Twins_put_games n).1) ((cz_Twins_put_games n).2)), runB 3 6 (b_Twins_put_game ((cz_Twins_put_games n).1) ((cz_Twins_put_games n).2)))
def c_Twins_put_game : List Val → Hea → Res Val := (cz_Twins_put_games 30).2
def b_first_unlike : En → Hea → SRes := (sSeq (sEx (eCall c_check_rating (aCons (eVar 0) (aCons (eVar 1) (aCons (eVar 2) aNil)))))
  (sSeq (sSet 3 (eMakeI 41 c_Twins___init__ (aCons (eVar 0) (aCons (eVar 1) (aCons (eVar 2) aNil)))))
  (sSeq (sIf (eBin oIs (eFld (Nat.beq 41) 24 (eVar 3)) (eC .non)) (sRet (eC .non)) sNil)
  (sSeq (sSet 4 (eMeth 41 32 c_Twins_many_games (eVar 3) aNil))
  (sSeq (sIf (eBin oGt (eBin oAdd (eBin oAdd (eC (.int 1)) (eBin oDGet (eVar 4) (eBin oIx (eFld (Nat.beq 41) 24 (eVar 3)) (eC (.int 0))))) (eBin oDGet (eVar 4) (eBin oIx (eFld (Nat.beq 41) 24 (eVar 3)) (eC (.int 1))))) (eC k_MOST_GAMES)) (sRaise 25 (eC k_MOST_GAMES)) sNil)
  (sSeq (sSet 5 (eNew (lDisp aNil)))
  (sSeq (sEx (eMeth 41 33 c_Twins_put_game (eVar 3) (aCons (eFld (Nat.beq 41) 24 (eVar 3)) (aCons (eVar 5) aNil))))
  (sRet (eTup (aCons (eVar 5) (aCons (eBin oIx (eFld (Nat.beq 41) 24 (eVar 3)) (eC (.int 3))) aNil)))))))))))
def c_first_unlike : List Val → Hea → Res Val := runB 3 6 b_first_unlike
def b__law_refused : En → Hea → SRes := (sSeq (sTry1 sub_BadPlace 4 (sIf (eBin oEq (eVar 0) (eC (.int 0))) (sEx (eCall c_are_alike (aCons (eVar 1) (aCons (eVar 2) (aCons (eVar 3) aNil))))) (sEx (eCall c_first_unlike (aCons (eVar 1) (aCons (eVar 2) (aCons (eVar 3) aNil)))))) (sRet (eBin oEq (eCB gReprD (aCons (eUn oExF (eVar 4)) aNil)) (eCB gReprD (aCons (eVar 3) aNil)))))
  (sRet (eC (.bl false))))
def c__law_refused : List Val → Hea → Res Val := runB 4 5 b__law_refused
def b__law_known : En → Hea → SRes := (sSeq (sPar [0, 1] (aCons (eLst (lDisp (aCons (eTup (aCons (eC (.int 0)) (aCons (eTup (aCons (eC (.int 1)) (aCons (eUn oNeg (eC (.int 1))) aNil))) (aCons (eTup (aCons (eC (.int 0)) (aCons (eC (.int 0)) aNil))) (aCons (eTup (aCons (eUn oNeg (eC (.int 1))) (aCons (eC (.int 1)) aNil))) aNil))))) aNil))) (aCons (eTup (aCons (eC (.int 5)) (aCons (eTup (aCons (eC (.int 9)) (aCons (eC (.int 9)) aNil))) (aCons (eC .non) (aCons (eC .non) aNil))))) aNil)))
  (sSeq (sPar [2, 3] (aCons (eMakeKd [0, 1, 2, 3, 4, 5, 6] [(.int 0), (.int 1), (.int 0)] 3 0 30 c_Book___init__ (aCons (eC (.int 0)) (aCons (eC (.int 4)) (aCons (eVar 0) aNil))) aNil) (aCons (eMakeKd [0, 1, 2, 3, 4, 5, 6] [(.int 0), (.int 1), (.int 0)] 3 0 30 c_Book___init__ (aCons (eC (.int 0)) (aCons (eC (.int 4)) (aCons (eBin oAdd (eVar 0) (eLst (lDisp (aCons (eVar 1) aNil)))) aNil))) aNil) aNil)))
  (sSeq (sIf (eOr (eUn oNot (eCall c_are_alike (aCons (eVar 2) (aCons (eVar 3) (aCons (eC (.int 2)) aNil))))) (eBin oIsNot (eCall c_first_unlike (aCons (eVar 2) (aCons (eVar 3) (aCons (eC (.int 2)) aNil)))) (eC .non))) (sRet (eC (.bl false))) sNil)
  (sSeq (sSet 4 (eMakeKd [0, 1, 2, 3, 4, 5, 6] [(.int 0), (.int 1), (.int 0)] 3 0 30 c_Book___init__ (aCons (eC (.int 0)) (aCons (eC (.int 5)) (aCons (eVar 0) aNil))) aNil))
  (sSeq (sIf (eOr (eCall c_are_alike (aCons (eVar 2) (aCons (eVar 4) (aCons (eC (.int 0)) aNil)))) (eOr (eCall c_are_alike (aCons (eVar 2) (aCons (eVar 4) (aCons (eC (.int 4)) aNil)))) (eBin oNe (eBin oIx (eCall c_first_unlike (aCons (eVar 2) (aCons (eVar 4) (aCons (eC (.int 4)) aNil)))) (eC (.int 1))) (eC (.str "ratings"))))) (sRet (eC (.bl false))) sNil)
  (sSeq (sSet 5 (eMakeKd [0, 1, 2, 3, 4, 5, 6] [(.int 0), (.int 1), (.int 0)] 3 0 30 c_Book___init__ (aCons (eC (.int 0)) (aCons (eC (.int 4)) (aCons (eLst (lDisp (aCons (eTup (aCons (eC (.int 0)) (aCons (eTup (aCons (eC (.int 1)) (aCons (eUn oNeg (eC (.int 1))) aNil))) (aCons (eC .non) (aCons (eTup (aCons (eUn oNeg (eC (.int 1))) (aCons (eC (.int 1)) aNil))) aNil))))) aNil))) aNil))) aNil))
  (sSeq (sSet 6 (eCall c_first_unlike (aCons (eVar 2) (aCons (eVar 5) (aCons (eC (.int 2)) aNil)))))
  (sSeq (sIf (eOr (eBin oNe (eBin oIx (eVar 6) (eC (.int 1))) (eC (.str "counts"))) (eOr (eBin oNe (eBin oIx (eBin oIx (eBin oIx (eVar 6) (eC (.int 0))) (eUn oNeg (eC (.int 1)))) (eC (.int 2))) (eC (.str "draw"))) (eCall c_are_alike (aCons (eVar 2) (aCons (eVar 5) (aCons (eC (.int 2)) aNil)))))) (sRet (eC (.bl false))) sNil)
  (sSeq (sSet 7 (eMakeKd [0, 1, 2, 3, 5, 6, 4] [(.int 0), (.int 1)] 3 1 30 c_Book___init__ (aCons (eC (.int 0)) (aCons (eC (.int 4)) (aCons (eLst (lDisp (aCons (eTup (aCons (eC (.int 0)) (aCons (eTup (aCons (eC (.int 0)) (aCons (eC (.int 0)) aNil))) (aCons (eTup (aCons (eC (.int 0)) (aCons (eC (.int 0)) aNil))) (aCons (eTup (aCons (eC (.int 0)) (aCons (eC (.int 0)) aNil))) aNil))))) aNil))) aNil))) (aCons (eC (.int 3)) aNil)))
  (sRet (eBin oIs (eCall c_are_alike (aCons (eMakeKd [0, 1, 2, 3, 4, 5, 6] [(.int 0), (.int 1), (.int 0)] 3 0 30 c_Book___init__ (aCons (eC (.int 0)) (aCons (eC (.int 9)) (aCons (eLst (lDisp (aCons (eTup (aCons (eC (.int 0)) (aCons (eTup (aCons (eC (.int 0)) (aCons (eC (.int 0)) aNil))) (aCons (eTup (aCons (eC (.int 0)) (aCons (eC (.int 0)) aNil))) (aCons (eTup (aCons (eC (.int 0)) (aCons (eC (.int 0)) aNil))) aNil))))) aNil))) aNil))) aNil) (aCons (eVar 7) (aCons (eC (.int 1)) aNil)))) (eC (.bl false)))))))))))))
def c__law_known : List Val → Hea → Res Val := runB 0 8 b__law_known
def b__law_told_games : En → Hea → SRes := (sTry1 sub_TooMany 2 (sRet (eCall c_first_unlike (aCons (eVar 0) (aCons (eVar 1) (aCons (eC (.int 0)) aNil))))) (sRet (eUn oExF (eVar 2))))
def c__law_told_games : List Val → Hea → Res Val := runB 2 3 b__law_told_games
def b__law_far_right : En → Hea → SRes := (sSeq (sSet 0 (eLst (lDisp (aCons (eTup (aCons (eC (.int 0)) (aCons (eTup (aCons (eC (.int 1)) (aCons (eC (.int 0)) aNil))) (aCons (eC .non) (aCons (eC .non) aNil))))) (aCons (eTup (aCons (eC (.int 1)) (aCons (eC .non) (aCons (eC .non) (aCons (eC .non) aNil))))) aNil)))))
  (sSeq (sPar [1, 2] (aCons (eMakeKd [0, 1, 2, 3, 4, 5, 6] [(.int 0), (.int 1), (.int 0)] 3 0 30 c_Book___init__ (aCons (eC (.int 0)) (aCons (eC (.int 22)) (aCons (eVar 0) aNil))) aNil) (aCons (eMakeKd [0, 1, 2, 3, 4, 5, 6] [(.int 0), (.int 1), (.int 0)] 3 0 30 c_Book___init__ (aCons (eC (.int 0)) (aCons (eC (.int 23)) (aCons (eVar 0) aNil))) aNil) aNil)))
  (sSeq (sIf (eBin oIsNot (eCall c_are_alike (aCons (eVar 1) (aCons (eVar 2) (aCons (eC (.int 0)) aNil)))) (eC (.bl false))) (sRet (eC (.bl false))) sNil)
  (sSeq (sSet 3 (eCall c__law_told_games (aCons (eVar 1) (aCons (eVar 2) aNil))))
  (sSeq (sIf (eAnd (eBin oNe (eVar 3) (eC (.int 20000))) (eOr (eUn (oIsi [.int]) (eVar 3)) (eUn oNot (eCall c__law_shows (aCons (eVar 3) (aCons (eC (.int 22)) aNil)))))) (sRet (eC (.bl false))) sNil)
  (sRet (eCall c__law_shows (aCons (eCall c_first_unlike (aCons (eMakeKd [0, 1, 2, 3, 4, 5, 6] [(.int 0), (.int 1), (.int 0)] 3 0 30 c_Book___init__ (aCons (eC (.int 0)) (aCons (eC (.int 12)) (aCons (eVar 0) aNil))) aNil) (aCons (eMakeKd [0, 1, 2, 3, 4, 5, 6] [(.int 0), (.int 1), (.int 0)] 3 0 30 c_Book___init__ (aCons (eC (.int 0)) (aCons (eC (.int 13)) (aCons (eVar 0) aNil))) aNil) (aCons (eC (.int 0)) aNil)))) (aCons (eC (.int 12)) aNil)))))))))
def c__law_far_right : List Val → Hea → Res Val := runB 0 4 b__law_far_right
def l_law_0 : En → Hea → SRes := (sIf (eOr (eUn oNot (eCall c__law_refused (aCons (eVar 7) (aCons (eVar 5) (aCons (eVar 6) (aCons (eVar 8) aNil)))))) (eUn oNot (eCall c__law_refused (aCons (eVar 7) (aCons (eVar 6) (aCons (eVar 5) (aCons (eVar 8) aNil))))))) (sRet (eC (.bl false))) sNil)
def l_law_1 : En → Hea → SRes := (sSeq (sForK [8] (iTmp (lDisp (aCons (eC .non) (aCons (eBin oSub (eVar 3) (eC (.int 1))) (aCons (eVar 3) (aCons (eBin oAdd (eVar 3) (eC (.int 4))) (aCons (eBin oAdd (eVar 3) (eC (.int 6))) (aCons (eC (.bl true)) (aCons (eCB gStr (aCons (eBin oAdd (eVar 3) (eC (.int 1))) aNil)) aNil))))))))) (gN 8) l_law_0)
  (sIf (eOr (eCall c__law_refused (aCons (eVar 7) (aCons (eVar 5) (aCons (eVar 6) (aCons (eBin oAdd (eVar 3) (eC (.int 1))) aNil))))) (eCall c__law_refused (aCons (eVar 7) (aCons (eVar 5) (aCons (eVar 6) (aCons (eBin oAdd (eVar 3) (eC (.int 3))) aNil)))))) (sRet (eC (.bl false))) sNil))
def l_law_2 : En → Hea → SRes := (sSeq (sSet 2 (eCall c__law_pool (aCons (eVar 0) (aCons (eVar 1) aNil))))
  (sSeq (sSet 3 (eBin oAdd (eC (.int 1)) (eCall c__law_draw (aCons (eVar 2) (aCons (eC (.int 4)) aNil)))))
  (sSeq (sSet 4 (eLst (lDisp (aCons (eTup (aCons (eC (.int 0)) (aCons (eTup (aCons (eC (.int 1)) (aCons (eUn oNeg (eC (.int 1))) aNil))) (aCons (eTup (aCons (eC (.int 0)) (aCons (eC (.int 0)) aNil))) (aCons (eTup (aCons (eUn oNeg (eC (.int 1))) (aCons (eC (.int 1)) aNil))) aNil))))) aNil))))
  (sSeq (sPar [5, 6] (aCons (eMakeKd [0, 1, 2, 3, 4, 5, 6] [(.int 0), (.int 1), (.int 0)] 3 0 30 c_Book___init__ (aCons (eVar 3) (aCons (eBin oAdd (eVar 3) (eC (.int 3))) (aCons (eVar 4) aNil))) aNil) (aCons (eMakeKd [0, 1, 2, 3, 4, 5, 6] [(.int 0), (.int 1), (.int 0)] 3 0 30 c_Book___init__ (aCons (eBin oAdd (eVar 3) (eC (.int 1))) (aCons (eBin oAdd (eVar 3) (eC (.int 5))) (aCons (eVar 4) aNil))) aNil) aNil)))
  (sSeq (sForK [7, 8] (iRng1V (aCons (eC (.int 2)) aNil)) (gN 7) l_law_1)
  (sIf (eUn oNot (eCall0 c__law_known)) (sRet (eC (.bl false))) sNil))))))
def b_law : En → Hea → SRes := (sSeq (sIf (eUn oNot (eCall0 c__law_far_right)) (sRet (eC (.bl false))) sNil)
  (sSeq (sForK [1, 2, 3, 4, 5, 6, 7, 8] (iRng1V (aCons (eCB gMax2 (aCons (eC (.int 1)) (aCons (eCB gMin2 (aCons (eIt gLen (eVar 0)) (aCons (eC (.int 2)) aNil))) aNil))) aNil)) (gN 1) l_law_2)
  (sRet (eC (.bl true)))))
def c_law : List Val → Hea → Res Val := runB 1 9 b_law
/-- the plain law: every script of at most 63 ints gives True -/
def Plain : Prop := ∀ ns : List Int, ns.length ≤ 63 → ∃ h, c_law [.ref 0] [.fro ns] = .ok (.bl true) h
end K81
end
section
set_option maxRecDepth 100000
set_option maxHeartbeats 1000000
namespace K81
open PySem L2 Lad
theorem nmOk0 : ∀ m, m < 100 → ∀ n, n < 100 → nmN m = nmN n → m = n := by decide +kernel
theorem nmOk {K : PySem.W.Frag} : NmOk (TT K) := fun m n hm hn e => nmOk0 m hm n hn e
theorem ini_BadBook : InitOk e_BadBook.st e_BadBook.fld := ⟨⟨_, _, _, _, _, _, _, _, _, _, _, _, rfl, fun env => ⟨_, rfl⟩⟩, ⟨_, _, rfl⟩, by decide +kernel, rfl, rfl, rfl, by decide +kernel, by decide +kernel, by decide +kernel, by decide +kernel, by decide +kernel, by decide +kernel⟩
theorem ini_BadPlace : InitOk e_BadPlace.st e_BadPlace.fld := ⟨⟨_, _, _, _, _, _, _, _, _, _, _, _, rfl, fun env => ⟨_, rfl⟩⟩, ⟨_, _, rfl⟩, by decide +kernel, rfl, rfl, rfl, by decide +kernel, by decide +kernel, by decide +kernel, by decide +kernel, by decide +kernel, by decide +kernel⟩
theorem ini_BadGame : InitOk e_BadGame.st e_BadGame.fld := ⟨⟨_, _, _, _, _, _, _, _, _, _, _, _, rfl, fun env => ⟨_, rfl⟩⟩, ⟨_, _, rfl⟩, by decide +kernel, rfl, rfl, rfl, by decide +kernel, by decide +kernel, by decide +kernel, by decide +kernel, by decide +kernel, by decide +kernel⟩
theorem ini_TooMany : InitOk e_TooMany.st e_TooMany.fld := ⟨⟨_, _, _, _, _, _, _, _, _, _, _, _, rfl, fun env => ⟨_, rfl⟩⟩, ⟨_, _, rfl⟩, by decide +kernel, rfl, rfl, rfl, by decide +kernel, by decide +kernel, by decide +kernel, by decide +kernel, by decide +kernel, by decide +kernel⟩
structure Txt (P : Program) (K : PySem.W.Frag) (mg : Str → Option Value) : Prop where
  z_all : mg "all" = none
  z_bool : mg "bool" = none
  z_int : mg "int" = none
  z_isinstance : mg "isinstance" = none
  z_len : mg "len" = none
  z_list : mg "list" = none
  z_max : mg "max" = none
  z_min : mg "min" = none
  z_range : mg "range" = none
  z_repr : mg "repr" = none
  z_str : mg "str" = none
  z_tuple : mg "tuple" = none
  z_zip : mg "zip" = none
  F_is_whole : Fun K "is_whole" "is_whole" (top 9) (He.ga K "is_whole") (fdOf K (He.ga K "is_whole"))
  g_is_whole : mg "is_whole" = some (.ref (He.ga K "is_whole"))
  F_row_at : Fun K "row_at" "row_at" (top 18) (He.ga K "row_at") (fdOf K (He.ga K "row_at"))
  g_row_at : mg "row_at" = some (.ref (He.ga K "row_at"))
  F_is_result : Fun K "is_result" "is_result" (top 19) (He.ga K "is_result") (fdOf K (He.ga K "is_result"))
  g_is_result : mg "is_result" = some (.ref (He.ga K "is_result"))
  F__law_pool : Fun K "_law_pool" "_law_pool" (top 28) (He.ga K "_law_pool") (fdOf K (He.ga K "_law_pool"))
  g__law_pool : mg "_law_pool" = some (.ref (He.ga K "_law_pool"))
  F__law_draw : Fun K "_law_draw" "_law_draw" (top 29) (He.ga K "_law_draw") (fdOf K (He.ga K "_law_draw"))
  g__law_draw : mg "_law_draw" = some (.ref (He.ga K "_law_draw"))
  F__law_shows : Fun K "_law_shows" "_law_shows" (top 34) (He.ga K "_law_shows") (fdOf K (He.ga K "_law_shows"))
  g__law_shows : mg "_law_shows" = some (.ref (He.ga K "_law_shows"))
  F_Book_last_phase : Fun K "last_phase" "Book.last_phase" (inClass (top 20) 7) (He.ma K (He.ga K "Book") "last_phase") (fdOf K (He.ma K (He.ga K "Book") "last_phase"))
  F_Book_moved : Fun K "moved" "Book.moved" (inClass (top 20) 10) (He.ma K (He.ga K "Book") "moved") (fdOf K (He.ma K (He.ga K "Book") "moved"))
  F_Twins_many_games : Fun K "many_games" "Twins.many_games" (inClass (top 23) 3) (He.ma K (He.ga K "Twins") "many_games") (fdOf K (He.ma K (He.ga K "Twins") "many_games"))
  F_is_integer : Fun K "is_integer" "is_integer" (top 8) (He.ga K "is_integer") (fdOf K (He.ga K "is_integer"))
  g_is_integer : mg "is_integer" = some (.ref (He.ga K "is_integer"))
  F_Book_places : Fun K "places" "Book.places" (inClass (top 20) 8) (He.ma K (He.ga K "Book") "places") (fdOf K (He.ma K (He.ga K "Book") "places"))
  F_is_entry : Fun K "is_entry" "is_entry" (top 15) (He.ga K "is_entry") (fdOf K (He.ga K "is_entry"))
  g_is_entry : mg "is_entry" = some (.ref (He.ga K "is_entry"))
  F_check_rating : Fun K "check_rating" "check_rating" (top 24) (He.ga K "check_rating") (fdOf K (He.ga K "check_rating"))
  g_check_rating : mg "check_rating" = some (.ref (He.ga K "check_rating"))
  F_Book___len__ : Fun K "__len__" "Book.__len__" (inClass (top 20) 1) (He.ma K (He.ga K "Book") "__len__") (fdOf K (He.ma K (He.ga K "Book") "__len__"))
  F_Book___contains__ : Fun K "__contains__" "Book.__contains__" (inClass (top 20) 3) (He.ma K (He.ga K "Book") "__contains__") (fdOf K (He.ma K (He.ga K "Book") "__contains__"))
  F_Book_start : Fun K "start" "Book.start" (inClass (top 20) 9) (He.ma K (He.ga K "Book") "start") (fdOf K (He.ma K (He.ga K "Book") "start"))
  F_is_table_row : Fun K "is_table_row" "is_table_row" (top 16) (He.ga K "is_table_row") (fdOf K (He.ga K "is_table_row"))
  g_is_table_row : mg "is_table_row" = some (.ref (He.ga K "is_table_row"))
  F_Book_game : Fun K "game" "Book.game" (inClass (top 20) 11) (He.ma K (He.ga K "Book") "game") (fdOf K (He.ma K (He.ga K "Book") "game"))
  F_is_table : Fun K "is_table" "is_table" (top 17) (He.ga K "is_table") (fdOf K (He.ga K "is_table"))
  g_is_table : mg "is_table" = some (.ref (He.ga K "is_table"))
  F_Twins_take : Fun K "take" "Twins.take" (inClass (top 23) 2) (He.ma K (He.ga K "Twins") "take") (fdOf K (He.ma K (He.ga K "Twins") "take"))
  FD_Book___init__ : FunD K "__init__" "Book.__init__" (defArgs (inClass (top 20) 0)) (defBody (inClass (top 20) 0)) (defScope (inClass (top 20) 0)) [] (([("fresh", (.int 0)), ("times", (.int 1)), ("bonus", (.int 0))] : List (Str × He.Dv)).map fun q => (q.1, q.2.v K)) (He.ma K (He.ga K "Book") "__init__") (fdOf K (He.ma K (He.ga K "Book") "__init__"))
  F_Book___init__ : Fun K "__init__" "Book.__init__" (inClass (top 20) 0) (He.ma K (He.ga K "Book") "__init__") (fdOf K (He.ma K (He.ga K "Book") "__init__"))
  F_Twins_look_at : Fun K "look_at" "Twins.look_at" (inClass (top 23) 1) (He.ma K (He.ga K "Twins") "look_at") (fdOf K (He.ma K (He.ga K "Twins") "look_at"))
  F_Twins___init__ : Fun K "__init__" "Twins.__init__" (inClass (top 23) 0) (He.ma K (He.ga K "Twins") "__init__") (fdOf K (He.ma K (He.ga K "Twins") "__init__"))
  F_are_alike : Fun K "are_alike" "are_alike" (top 25) (He.ga K "are_alike") (fdOf K (He.ga K "are_alike"))
  g_are_alike : mg "are_alike" = some (.ref (He.ga K "are_alike"))
  F_Twins_put_games : Fun K "put_games" "Twins.put_games" (inClass (top 23) 4) (He.ma K (He.ga K "Twins") "put_games") (fdOf K (He.ma K (He.ga K "Twins") "put_games"))
  F_Twins_put_game : Fun K "put_game" "Twins.put_game" (inClass (top 23) 5) (He.ma K (He.ga K "Twins") "put_game") (fdOf K (He.ma K (He.ga K "Twins") "put_game"))
  F_first_unlike : Fun K "first_unlike" "first_unlike" (top 26) (He.ga K "first_unlike") (fdOf K (He.ga K "first_unlike"))
  g_first_unlike : mg "first_unlike" = some (.ref (He.ga K "first_unlike"))
  F__law_refused : Fun K "_law_refused" "_law_refused" (top 31) (He.ga K "_law_refused") (fdOf K (He.ga K "_law_refused"))
  g__law_refused : mg "_law_refused" = some (.ref (He.ga K "_law_refused"))
  F__law_known : Fun K "_law_known" "_law_known" (top 32) (He.ga K "_law_known") (fdOf K (He.ga K "_law_known"))
  g__law_known : mg "_law_known" = some (.ref (He.ga K "_law_known"))
  F__law_told_games : Fun K "_law_told_games" "_law_told_games" (top 33) (He.ga K "_law_told_games") (fdOf K (He.ga K "_law_told_games"))
  g__law_told_games : mg "_law_told_games" = some (.ref (He.ga K "_law_told_games"))
  F__law_far_right : Fun K "_law_far_right" "_law_far_right" (top 35) (He.ga K "_law_far_right") (fdOf K (He.ga K "_law_far_right"))
  g__law_far_right : mg "_law_far_right" = some (.ref (He.ga K "_law_far_right"))
  F_law : Fun K "law" "law" (top 36) (He.ga K "law") (fdOf K (He.ga K "law"))
  g_law : mg "law" = some (.ref (He.ga K "law"))
  nl : noList K = true
  con_MOST_GAMES : ConOk K mg "MOST_GAMES" k_MOST_GAMES
  con_MOST_PLACES : ConOk K mg "MOST_PLACES" k_MOST_PLACES
  con_MOST_RATING : ConOk K mg "MOST_RATING" k_MOST_RATING
  con_MOST_ROWS : ConOk K mg "MOST_ROWS" k_MOST_ROWS
  con_RESULTS : ConOk K mg "RESULTS" k_RESULTS
  td_RESULTS : TupD K mg "RESULTS"
  g_LadderError : mg "LadderError" = some (.ref ((TT K).ca 0))
  g_BadBook : mg "BadBook" = some (.ref ((TT K).ca 2))
  g_BadPlace : mg "BadPlace" = some (.ref ((TT K).ca 3))
  g_BadGame : mg "BadGame" = some (.ref ((TT K).ca 4))
  g_TooMany : mg "TooMany" = some (.ref ((TT K).ca 25))
  g_Book : mg "Book" = some (.ref ((TT K).ca 30))
  g_Twins : mg "Twins" = some (.ref ((TT K).ca 41))
  er_BadBook : ExTxt P K e_BadBook.st ((TT K).ca 2) (erI K e_BadBook) (erCc K e_BadBook) (erCda K e_BadBook) (fdOf K (erI K e_BadBook)) "ValueError" "ValueError.__new__" "ValueError.__init__" He.veBase ((TT K).fld 2)
  xf_2 : XfC K ((TT K).ca 2) ∧ ExcC K ((TT K).ca 2)
  no_2 : PySem.W.findIn K (.ref ((TT K).ca 2)) "part" = some none
  er_BadPlace : ExTxt P K e_BadPlace.st ((TT K).ca 3) (erI K e_BadPlace) (erCc K e_BadPlace) (erCda K e_BadPlace) (fdOf K (erI K e_BadPlace)) "ValueError" "ValueError.__new__" "ValueError.__init__" He.veBase ((TT K).fld 3)
  xf_3 : XfC K ((TT K).ca 3) ∧ ExcC K ((TT K).ca 3)
  no_3 : PySem.W.findIn K (.ref ((TT K).ca 3)) "place" = some none
  er_BadGame : ExTxt P K e_BadGame.st ((TT K).ca 4) (erI K e_BadGame) (erCc K e_BadGame) (erCda K e_BadGame) (fdOf K (erI K e_BadGame)) "ValueError" "ValueError.__new__" "ValueError.__init__" He.veBase ((TT K).fld 4)
  xf_4 : XfC K ((TT K).ca 4) ∧ ExcC K ((TT K).ca 4)
  no_4 : PySem.W.findIn K (.ref ((TT K).ca 4)) "value" = some none
  er_TooMany : ExTxt P K e_TooMany.st ((TT K).ca 25) (erI K e_TooMany) (erCc K e_TooMany) (erCda K e_TooMany) (fdOf K (erI K e_TooMany)) "OverflowError" "OverflowError.__new__" "OverflowError.__init__" oeBase ((TT K).fld 25)
  xf_25 : XfC K ((TT K).ca 25) ∧ ExcC K ((TT K).ca 25)
  no_25 : PySem.W.findIn K (.ref ((TT K).ca 25)) "limit" = some none
  exm_2_BadPlace : PySem.W.exmOne K (.ref ((TT K).ca 2)) (.ref ((TT K).ca 3)) = some false
  exm_2_TooMany : PySem.W.exmOne K (.ref ((TT K).ca 2)) (.ref ((TT K).ca 25)) = some false
  exm_3_BadPlace : PySem.W.exmOne K (.ref ((TT K).ca 3)) (.ref ((TT K).ca 3)) = some true
  exm_3_TooMany : PySem.W.exmOne K (.ref ((TT K).ca 3)) (.ref ((TT K).ca 25)) = some false
  exm_4_BadPlace : PySem.W.exmOne K (.ref ((TT K).ca 4)) (.ref ((TT K).ca 3)) = some false
  exm_4_TooMany : PySem.W.exmOne K (.ref ((TT K).ca 4)) (.ref ((TT K).ca 25)) = some false
  exm_25_BadPlace : PySem.W.exmOne K (.ref ((TT K).ca 25)) (.ref ((TT K).ca 3)) = some false
  exm_25_TooMany : PySem.W.exmOne K (.ref ((TT K).ca 25)) (.ref ((TT K).ca 25)) = some true
  own_Book : OwnC K ((TT K).ca 30)
  own_Twins : OwnC K ((TT K).ca 41)
  na_Book_bonus : NoAttr K ((TT K).ca 30) "bonus"
  na_Book_fresh : NoAttr K ((TT K).ca 30) "fresh"
  na_Book_high : NoAttr K ((TT K).ca 30) "high"
  na_Book_low : NoAttr K ((TT K).ca 30) "low"
  na_Book_table : NoAttr K ((TT K).ca 30) "table"
  na_Book_times : NoAttr K ((TT K).ca 30) "times"
  na_Twins_fault : NoAttr K ((TT K).ca 41) "fault"
  na_Twins_many_players : NoAttr K ((TT K).ca 41) "many_players"
  na_Twins_one : NoAttr K ((TT K).ca 41) "one"
  na_Twins_other : NoAttr K ((TT K).ca 41) "other"
  na_Twins_pairs : NoAttr K ((TT K).ca 41) "pairs"
  na_Twins_sources : NoAttr K ((TT K).ca 41) "sources"
  me_Book_game : Meth K ((TT K).ca 30) "game" (He.ma K (He.ga K "Book") "game")
  me_Book_last_phase : Meth K ((TT K).ca 30) "last_phase" (He.ma K (He.ga K "Book") "last_phase")
  me_Book_moved : Meth K ((TT K).ca 30) "moved" (He.ma K (He.ga K "Book") "moved")
  me_Book_places : Meth K ((TT K).ca 30) "places" (He.ma K (He.ga K "Book") "places")
  me_Book_start : Meth K ((TT K).ca 30) "start" (He.ma K (He.ga K "Book") "start")
  me_Twins_look_at : Meth K ((TT K).ca 41) "look_at" (He.ma K (He.ga K "Twins") "look_at")
  me_Twins_many_games : Meth K ((TT K).ca 41) "many_games" (He.ma K (He.ga K "Twins") "many_games")
  me_Twins_put_game : Meth K ((TT K).ca 41) "put_game" (He.ma K (He.ga K "Twins") "put_game")
  me_Twins_put_games : Meth K ((TT K).ca 41) "put_games" (He.ma K (He.ga K "Twins") "put_games")
  me_Twins_take : Meth K ((TT K).ca 41) "take" (He.ma K (He.ga K "Twins") "take")
  mk_Book : Mk K ((TT K).ca 30) (He.ma K (He.ga K "Book") "__init__")
  mk_Twins : Mk K ((TT K).ca 41) (He.ma K (He.ga K "Twins") "__init__")
  du_Book___contains__ : Dun K ((TT K).ca 30) "__contains__" (He.ma K (He.ga K "Book") "__contains__")
  du_Book___len__ : Dun K ((TT K).ca 30) "__len__" (He.ma K (He.ga K "Book") "__len__")
abbrev N_is_whole : List Str := ["value"]
theorem sc_is_whole : FnScope N_is_whole ["value"] (defScope (top 9)) := ⟨rfl, rfl, rfl, by decide +kernel, rfl, by decide +kernel, by decide +kernel⟩
abbrev N_row_at : List Str := ["table", "difference", "row"]
theorem sc_row_at : FnScope N_row_at ["table", "difference"] (defScope (top 18)) := ⟨rfl, rfl, rfl, by decide +kernel, rfl, by decide +kernel, by decide +kernel⟩
abbrev N_is_result : List Str := ["value"]
theorem sc_is_result : FnScope N_is_result ["value"] (defScope (top 19)) := ⟨rfl, rfl, rfl, by decide +kernel, rfl, by decide +kernel, by decide +kernel⟩
abbrev N__law_pool : List Str := ["_law_script", "_law_k", "_law_size", "_law_mixed"]
theorem sc__law_pool : FnScope N__law_pool ["_law_script", "_law_k"] (defScope (top 28)) := ⟨rfl, rfl, rfl, by decide +kernel, rfl, by decide +kernel, by decide +kernel⟩
abbrev N__law_draw : List Str := ["_law_pool_here", "_law_many", "_law_found"]
theorem sc__law_draw : FnScope N__law_draw ["_law_pool_here", "_law_many"] (defScope (top 29)) := ⟨rfl, rfl, rfl, by decide +kernel, rfl, by decide +kernel, by decide +kernel⟩
abbrev N__law_shows : List Str := ["_law_told", "_law_high", "_law_games", "_law_kind", "_law_spots", "_law_at", "_law_upper", "_law_lower", "_law_result", "_law_here", "_law_there"]
theorem sc__law_shows : FnScope N__law_shows ["_law_told", "_law_high"] (defScope (top 34)) := ⟨rfl, rfl, rfl, by decide +kernel, rfl, by decide +kernel, by decide +kernel⟩
abbrev N_Book_last_phase : List Str := ["self"]
theorem sc_Book_last_phase : FnScope N_Book_last_phase ["self"] (defScope (inClass (top 20) 7)) := ⟨rfl, rfl, rfl, by decide +kernel, rfl, by decide +kernel, by decide +kernel⟩
abbrev N_Book_moved : List Str := ["self", "place", "change", "is_won", "rating", "phase", "later"]
theorem sc_Book_moved : FnScope N_Book_moved ["self", "place", "change", "is_won"] (defScope (inClass (top 20) 10)) := ⟨rfl, rfl, rfl, by decide +kernel, rfl, by decide +kernel, by decide +kernel⟩
abbrev N_Twins_many_games : List Str := ["self", "found", "pair", "source"]
theorem sc_Twins_many_games : FnScope N_Twins_many_games ["self"] (defScope (inClass (top 23) 3)) := ⟨rfl, rfl, rfl, by decide +kernel, rfl, by decide +kernel, by decide +kernel⟩
abbrev N_is_integer : List Str := ["value", "lowest", "highest"]
theorem sc_is_integer : FnScope N_is_integer ["value", "lowest", "highest"] (defScope (top 8)) := ⟨rfl, rfl, rfl, by decide +kernel, rfl, by decide +kernel, by decide +kernel⟩
abbrev N_Book_places : List Str := ["self", "phases", "rating", "phase"]
theorem sc_Book_places : FnScope N_Book_places ["self"] (defScope (inClass (top 20) 8)) := ⟨rfl, rfl, rfl, by decide +kernel, rfl, by decide +kernel, by decide +kernel⟩
abbrev N_is_entry : List Str := ["value", "change"]
theorem sc_is_entry : FnScope N_is_entry ["value"] (defScope (top 15)) := ⟨rfl, rfl, rfl, by decide +kernel, rfl, by decide +kernel, by decide +kernel⟩
abbrev N_check_rating : List Str := ["one", "other", "rating", "book"]
theorem sc_check_rating : FnScope N_check_rating ["one", "other", "rating"] (defScope (top 24)) := ⟨rfl, rfl, rfl, by decide +kernel, rfl, by decide +kernel, by decide +kernel⟩
abbrev N_Book___len__ : List Str := ["self"]
theorem sc_Book___len__ : FnScope N_Book___len__ ["self"] (defScope (inClass (top 20) 1)) := ⟨rfl, rfl, rfl, by decide +kernel, rfl, by decide +kernel, by decide +kernel⟩
abbrev N_Book___contains__ : List Str := ["self", "place"]
theorem sc_Book___contains__ : FnScope N_Book___contains__ ["self", "place"] (defScope (inClass (top 20) 3)) := ⟨rfl, rfl, rfl, by decide +kernel, rfl, by decide +kernel, by decide +kernel⟩
abbrev N_Book_start : List Str := ["self", "rating"]
theorem sc_Book_start : FnScope N_Book_start ["self", "rating"] (defScope (inClass (top 20) 9)) := ⟨rfl, rfl, rfl, by decide +kernel, rfl, by decide +kernel, by decide +kernel⟩
abbrev N_is_table_row : List Str := ["value", "entry"]
theorem sc_is_table_row : FnScope N_is_table_row ["value"] (defScope (top 16)) := ⟨rfl, rfl, rfl, by decide +kernel, rfl, by decide +kernel, by decide +kernel⟩
abbrev N_Book_game : List Str := ["self", "upper", "lower", "result", "place", "entry"]
theorem sc_Book_game : FnScope N_Book_game ["self", "upper", "lower", "result"] (defScope (inClass (top 20) 11)) := ⟨rfl, rfl, rfl, by decide +kernel, rfl, by decide +kernel, by decide +kernel⟩
abbrev N_is_table : List Str := ["value", "row", "one", "other"]
theorem sc_is_table : FnScope N_is_table ["value"] (defScope (top 17)) := ⟨rfl, rfl, rfl, by decide +kernel, rfl, by decide +kernel, by decide +kernel⟩
abbrev N_Twins_take : List Str := ["self", "upper", "lower", "result", "one", "other", "number", "pair", "place"]
theorem sc_Twins_take : FnScope N_Twins_take ["self", "upper", "lower", "result"] (defScope (inClass (top 23) 2)) := ⟨rfl, rfl, rfl, by decide +kernel, rfl, by decide +kernel, by decide +kernel⟩
abbrev N_Book___init__ : List Str := ["self", "low", "high", "table", "fresh", "times", "bonus"]
theorem sc_Book___init__ : FnScope N_Book___init__ ["self", "low", "high", "table", "fresh", "times", "bonus"] (defScope (inClass (top 20) 0)) := ⟨rfl, rfl, rfl, by decide +kernel, rfl, by decide +kernel, by decide +kernel⟩
abbrev N_Twins_look_at : List Str := ["self", "at", "index", "upper", "lower", "result"]
theorem sc_Twins_look_at : FnScope N_Twins_look_at ["self", "at"] (defScope (inClass (top 23) 1)) := ⟨rfl, rfl, rfl, by decide +kernel, rfl, by decide +kernel, by decide +kernel⟩
abbrev N_Twins___init__ : List Str := ["self", "one", "other", "rating", "start", "at"]
theorem sc_Twins___init__ : FnScope N_Twins___init__ ["self", "one", "other", "rating"] (defScope (inClass (top 23) 0)) := ⟨rfl, rfl, rfl, by decide +kernel, rfl, by decide +kernel, by decide +kernel⟩
abbrev N_are_alike : List Str := ["one", "other", "rating"]
theorem sc_are_alike : FnScope N_are_alike ["one", "other", "rating"] (defScope (top 25)) := ⟨rfl, rfl, rfl, by decide +kernel, rfl, by decide +kernel, by decide +kernel⟩
abbrev N_Twins_put_games : List Str := ["self", "pair", "games", "source"]
theorem sc_Twins_put_games : FnScope N_Twins_put_games ["self", "pair", "games"] (defScope (inClass (top 23) 4)) := ⟨rfl, rfl, rfl, by decide +kernel, rfl, by decide +kernel, by decide +kernel⟩
abbrev N_Twins_put_game : List Str := ["self", "source", "games", "players", "pair", "number"]
theorem sc_Twins_put_game : FnScope N_Twins_put_game ["self", "source", "games"] (defScope (inClass (top 23) 5)) := ⟨rfl, rfl, rfl, by decide +kernel, rfl, by decide +kernel, by decide +kernel⟩
abbrev N_first_unlike : List Str := ["one", "other", "rating", "twins", "counts", "games"]
theorem sc_first_unlike : FnScope N_first_unlike ["one", "other", "rating"] (defScope (top 26)) := ⟨rfl, rfl, rfl, by decide +kernel, rfl, by decide +kernel, by decide +kernel⟩
abbrev N__law_refused : List Str := ["_law_way", "_law_one", "_law_other", "_law_rating", "e"]
theorem sc__law_refused : FnScope N__law_refused ["_law_way", "_law_one", "_law_other", "_law_rating"] (defScope (top 31)) := ⟨rfl, rfl, rfl, by decide +kernel, rfl, by decide +kernel, by decide +kernel⟩
abbrev N__law_known : List Str := ["_law_win", "_law_row", "_law_one", "_law_far", "_law_tall", "_law_still", "_law_told", "_law_same"]
theorem sc__law_known : FnScope N__law_known [] (defScope (top 32)) := ⟨rfl, rfl, rfl, by decide +kernel, rfl, by decide +kernel, by decide +kernel⟩
abbrev N__law_told_games : List Str := ["_law_one", "_law_other", "e"]
theorem sc__law_told_games : FnScope N__law_told_games ["_law_one", "_law_other"] (defScope (top 33)) := ⟨rfl, rfl, rfl, by decide +kernel, rfl, by decide +kernel, by decide +kernel⟩
abbrev N__law_far_right : List Str := ["_law_rows", "_law_one", "_law_other", "_law_told"]
theorem sc__law_far_right : FnScope N__law_far_right [] (defScope (top 35)) := ⟨rfl, rfl, rfl, by decide +kernel, rfl, by decide +kernel, by decide +kernel⟩
abbrev N_law : List Str := ["_law_script", "_law_k", "_law_pool_here", "_law_low", "_law_row", "_law_one", "_law_other", "_law_way", "_law_odd"]
theorem sc_law : FnScope N_law ["_law_script"] (defScope (top 36)) := ⟨rfl, rfl, rfl, by decide +kernel, rfl, by decide +kernel, by decide +kernel⟩
section
variable {P : Program} {w : World} {K : PySem.W.Frag} {mg : Str → Option Value} {base : Heap}
theorem ok_is_whole (t : Txt P K mg) : FnOk P w K mg base (L2.CX P w) 1 (He.ga K "is_whole") (fdOf K (He.ga K "is_whole")) ["value"] (spEv ⟨K, (TT K).ca, (TT K).nm, (TT K).fld, P, w, (TT K).ex⟩ c_is_whole) :=
  fn_ok (T := TT K) fin_ok t.F_is_whole sc_is_whole fun cdv A outer s H E hr => (ss_one (st_ret (se_and (se_isi (b := .int) rfl t.z_isinstance (se_var (pv 0)) (ty_of t.z_int (by decide +kernel))) (se_one (se_not (se_isi (b := .bool) rfl t.z_isinstance (se_var (pv 0)) (ty_of t.z_bool (by decide +kernel))))))))
theorem ok_row_at (t : Txt P K mg) : FnOk P w K mg base (L2.CX P w) 1 (He.ga K "row_at") (fdOf K (He.ga K "row_at")) ["table", "difference"] (spEv ⟨K, (TT K).ca, (TT K).nm, (TT K).fld, P, w, (TT K).ex⟩ c_row_at) :=
  fn_ok (T := TT K) fin_ok t.F_row_at sc_row_at fun cdv A outer s H E hr => (ss_one (st_ret (se_ix (se_lst (sl_comp (own := [("row", 2)]) (b := (gN 2)) rfl sc_row_at.nd (si_seq (se_var (pv 0))) (blkOk_by (own := [("row", 2)]) (N := N_row_at) (sc := defScope (top 18)) (by decide +kernel)) (fun _ _ _ _ _ => (pg_name (i := 2) sc_row_at.nd rfl (Or.inl rfl))) (gok_name (vs := [2]) (by simp)) (fun _ _ _ _ _ => (sts_one (st_cmp o_le (se_ix (se_var (pv 2)) se_int) (se_var (pv 1)) (nomark _)))) (fun _ _ _ _ _ => (se_var (pv 2))))) (se_un o_neg se_int))))
theorem ok_is_result (t : Txt P K mg) : FnOk P w K mg base (L2.CX P w) 1 (He.ga K "is_result") (fdOf K (He.ga K "is_result")) ["value"] (spEv ⟨K, (TT K).ca, (TT K).nm, (TT K).fld, P, w, (TT K).ex⟩ c_is_result) :=
  fn_ok (T := TT K) fin_ok t.F_is_result sc_is_result fun cdv A outer s H E hr => (ss_one (st_ret (se_and (se_isi (b := .str) rfl t.z_isinstance (se_var (pv 0)) (ty_of t.z_str (by decide +kernel))) (se_one (se_cmp (o_in (u65 hr)) (se_var (pv 0)) (se_con t.con_RESULTS) (by with_unfolding_all rfl))))))
theorem ok__law_pool (t : Txt P K mg) : FnOk P w K mg base (L2.CX P w) 1 (He.ga K "_law_pool") (fdOf K (He.ga K "_law_pool")) ["_law_script", "_law_k"] (spEv ⟨K, (TT K).ca, (TT K).nm, (TT K).fld, P, w, (TT K).ex⟩ c__law_pool) :=
  fn_ok (T := TT K) finK_ok t.F__law_pool sc__law_pool fun cdv A outer s H E hr => (ss_cons (st_set (i := 2) sc__law_pool.nd rfl (Or.inl rfl) (se_if (st_cmp o_lt (se_var (pv 1)) (se_it g_len t.z_len (by decide +kernel) (se_var (pv 0))) (nomark _)) (se_cb (g_max2 rfl) t.z_max (by decide +kernel) (sa_cons (se_ct g_int t.z_int (by decide +kernel) (sa_cons (se_ix (se_var (pv 0)) (se_var (pv 1))) sa_nil)) (sa_cons (se_ct g_int t.z_int (by decide +kernel) (sa_cons (se_bin o_sub (se_un o_neg se_int) (se_ix (se_var (pv 0)) (se_var (pv 1)))) sa_nil)) sa_nil))) se_int))
  (ss_cons (st_set (i := 3) sc__law_pool.nd rfl (Or.inl rfl) (se_bin o_add (se_bin o_mod (se_ct g_int t.z_int (by decide +kernel) (sa_cons (se_bin o_mul (se_bin o_add (se_bin o_mod (se_ct g_int t.z_int (by decide +kernel) (sa_cons (se_var (pv 2)) sa_nil)) se_int) (se_bin o_mul se_int (se_bin o_add (se_var (pv 1)) se_int))) se_int) sa_nil)) se_int) se_int))
  (ss_one (st_ret (se_new (sl_lst (sa_cons (se_bin o_mul (se_var (pv 2)) (se_ct g_int t.z_int (by decide +kernel) (sa_cons (se_cmp o_ge (se_var (pv 2)) (se_bin o_pow se_int se_int) (nomark _)) sa_nil))) (sa_cons (se_bin o_mod (se_ct g_int t.z_int (by decide +kernel) (sa_cons (se_bin o_mul (se_var (pv 3)) (se_var (pv 3))) sa_nil)) se_int) sa_nil))))))))
theorem ok__law_draw (t : Txt P K mg) : FnOk P w K mg base (L2.CX P w) 1 (He.ga K "_law_draw") (fdOf K (He.ga K "_law_draw")) ["_law_pool_here", "_law_many"] (spEv ⟨K, (TT K).ca, (TT K).nm, (TT K).fld, P, w, (TT K).ex⟩ c__law_draw) :=
  fn_ok (T := TT K) fin_ok t.F__law_draw sc__law_draw fun cdv A outer s H E hr => (ss_cons (st_if (st_cmp o_gt (se_ix (se_var (pv 0)) se_int) se_int (nomark _)) (ss_cons (st_set (i := 2) sc__law_draw.nd rfl (Or.inl rfl) (se_bin o_mod (se_ct g_int t.z_int (by decide +kernel) (sa_cons (se_ix (se_var (pv 0)) se_int) sa_nil)) (se_var (pv 1))))
  (ss_cons (st_setIx (se_bin o_div (se_ix (se_var (pv 0)) se_int) (se_var (pv 1))) (se_var (pv 0)) se_int)
  (ss_one (st_ret (se_var (pv 2)))))) ss_nil)
  (ss_cons (st_setIx (se_bin o_mod (se_ct g_int t.z_int (by decide +kernel) (sa_cons (se_bin o_add (se_bin o_mul (se_ix (se_var (pv 0)) se_int) se_int) se_int) sa_nil)) se_int) (se_var (pv 0)) se_int)
  (ss_one (st_ret (se_bin o_mod (se_ct g_int t.z_int (by decide +kernel) (sa_cons (se_bin o_div (se_bin o_mod (se_ct g_int t.z_int (by decide +kernel) (sa_cons (se_bin o_mul (se_ix (se_var (pv 0)) se_int) (se_ix (se_var (pv 0)) se_int)) sa_nil)) se_int) se_int) sa_nil)) (se_var (pv 1)))))))
theorem ok__law_shows (t : Txt P K mg) : FnOk P w K mg base (L2.CX P w) 1 (He.ga K "_law_shows") (fdOf K (He.ga K "_law_shows")) ["_law_told", "_law_high"] (spEv ⟨K, (TT K).ca, (TT K).nm, (TT K).fld, P, w, (TT K).ex⟩ c__law_shows) :=
  fn_ok (T := TT K) fin_ok t.F__law_shows sc__law_shows fun cdv A outer s H E hr => (ss_cons (st_asg (pg_tup (n := 2) (t := gsNames [2, 3]) rfl (pgs_cons (pg_name (i := 2) sc__law_shows.nd rfl (Or.inl rfl)) (pgs_cons (pg_name (i := 3) sc__law_shows.nd rfl (Or.inl rfl)) pgs_nil))) (gok_tup (is := [2, 3]) (vs := [2, 3]) (by simp)) (se_var (pv 0)))
  (ss_cons (st_set (i := 4) sc__law_shows.nd rfl (Or.inl rfl) se_d0K)
  (ss_cons (st_for (passes_of rfl) rfl (si_range1 rfl t.z_range (sa_cons (se_it g_len t.z_len (by decide +kernel) (se_var (pv 2))) sa_nil)) (pg_name (i := 5) sc__law_shows.nd rfl (Or.inl rfl)) (gok_name (vs := [5]) (by simp)) (ss_cons (st_asg (pg_tup (n := 3) (t := gsNames [6, 7, 8]) rfl (pgs_cons (pg_name (i := 6) sc__law_shows.nd rfl (Or.inl rfl)) (pgs_cons (pg_name (i := 7) sc__law_shows.nd rfl (Or.inl rfl)) (pgs_cons (pg_name (i := 8) sc__law_shows.nd rfl (Or.inl rfl)) pgs_nil)))) (gok_tup (is := [6, 7, 8]) (vs := [6, 7, 8]) (by simp)) (se_ix (se_var (pv 2)) (se_var (pv 5))))
  (ss_cons (st_par2 (i := 9) (j := 10) rfl sc__law_shows.nd rfl rfl (by decide) rfl rfl (sa_cons (se_dget2 (u1 hr) (se_var (pv 4)) (se_var (pv 6)) se_int ⟨rfl, rfl, rfl, rfl⟩) (sa_cons (se_dget2 (u1 hr) (se_var (pv 4)) (se_var (pv 7)) se_int ⟨rfl, rfl, rfl, rfl⟩) sa_nil)) (by rfl))
  (ss_cons (st_if (st_bool (sw_or (st_cmp (o_eq hr.units) (se_var (pv 6)) (se_var (pv 7)) (nomark _)) (sw_or (st_cmp (o_ne hr.units) (se_var (pv 9)) (se_var (pv 10)) (nomark _)) (sw_oneO (st_cmp (o_ne hr.units) (se_var (pv 8)) se_str (nomark _)))))) (ss_one (st_ret se_bl)) ss_nil)
  (ss_cons (st_if (st_cmp (o_eq hr.units) (se_var (pv 9)) (se_var (pv 1)) (nomark _)) (ss_one (st_ret (se_and (se_cmp (o_eq hr.units) (se_var (pv 5)) (se_bin o_sub (se_it g_len t.z_len (by decide +kernel) (se_var (pv 2))) se_int) (nomark _)) (se_one (se_cmp (o_eq hr.units) (se_var (pv 3)) se_str (nomark _)))))) ss_nil)
  (ss_one (st_putT (fs := [((eVar 4), (eVar 6)), ((eVar 4), (eVar 7))]) rfl (pgs_cons (pg_sub (se_var (pv 4)) (se_var (pv 6)) (set_any (u1 hr))) (pgs_cons (pg_sub (se_var (pv 4)) (se_var (pv 7)) (set_any (u1 hr))) pgs_nil)) (se_tup (sa_cons (se_bin o_add (se_var (pv 9)) se_int) (sa_cons (se_var (pv 10)) sa_nil))))))))))
  (ss_one (st_ret se_bl)))))
theorem ok_Book_last_phase (t : Txt P K mg) : FnOk P w K mg base (L2.CX P w) 1 (He.ma K (He.ga K "Book") "last_phase") (fdOf K (He.ma K (He.ga K "Book") "last_phase")) ["self"] (spEv ⟨K, (TT K).ca, (TT K).nm, (TT K).fld, P, w, (TT K).ex⟩ c_Book_last_phase) :=
  fn_ok (T := TT K) fin_ok t.F_Book_last_phase sc_Book_last_phase fun cdv A outer s H E hr => (ss_one (st_ret (se_if (st_cmp o_gt (se_fld nmOk (by decide) rfl (fun c hc => by cases Nat.eq_of_beq_eq_true hc; exact ⟨t.own_Book.cl, t.na_Book_fresh⟩) (se_var (pv 0))) se_int (nomark _)) (se_fld nmOk (by decide) rfl (fun c hc => by cases Nat.eq_of_beq_eq_true hc; exact ⟨t.own_Book.cl, t.na_Book_fresh⟩) (se_var (pv 0))) (se_ct g_int t.z_int (by decide +kernel) (sa_cons (se_cmp o_gt (se_fld nmOk (by decide) rfl (fun c hc => by cases Nat.eq_of_beq_eq_true hc; exact ⟨t.own_Book.cl, t.na_Book_bonus⟩) (se_var (pv 0))) se_int (nomark _)) sa_nil)))))
theorem ok_Book_moved (t : Txt P K mg) : FnOk P w K mg base (L2.CX P w) 1 (He.ma K (He.ga K "Book") "moved") (fdOf K (He.ma K (He.ga K "Book") "moved")) ["self", "place", "change", "is_won"] (spEv ⟨K, (TT K).ca, (TT K).nm, (TT K).fld, P, w, (TT K).ex⟩ c_Book_moved) :=
  fn_ok (T := TT K) fin_ok t.F_Book_moved sc_Book_moved fun cdv A outer s H E hr => (ss_cons (st_asg (pg_tup (n := 2) (t := gsNames [4, 5]) rfl (pgs_cons (pg_name (i := 4) sc_Book_moved.nd rfl (Or.inl rfl)) (pgs_cons (pg_name (i := 5) sc_Book_moved.nd rfl (Or.inl rfl)) pgs_nil))) (gok_tup (is := [4, 5]) (vs := [4, 5]) (by simp)) (se_var (pv 1)))
  (ss_cons (st_if (st_cmp o_gt (se_fld nmOk (by decide) rfl (fun c hc => by cases Nat.eq_of_beq_eq_true hc; exact ⟨t.own_Book.cl, t.na_Book_fresh⟩) (se_var (pv 0))) se_int (nomark _)) (ss_cons (st_aug (i := 4) sc_Book_moved.nd rfl (Or.inl rfl) ip_add (se_if (st_cmp o_gt (se_var (pv 5)) se_int (nomark _)) (se_bin o_mul (se_var (pv 2)) (se_fld nmOk (by decide) rfl (fun c hc => by cases Nat.eq_of_beq_eq_true hc; exact ⟨t.own_Book.cl, t.na_Book_times⟩) (se_var (pv 0)))) (se_var (pv 2))))
  (ss_one (st_set (i := 6) sc_Book_moved.nd rfl (Or.inl rfl) (se_cb (g_max2 rfl) t.z_max (by decide +kernel) (sa_cons se_int (sa_cons (se_bin o_sub (se_var (pv 5)) se_int) sa_nil)))))) (ss_cons (st_aug (i := 4) sc_Book_moved.nd rfl (Or.inl rfl) ip_add (se_if (st_bool (sw_and (st_val (se_var (pv 3))) (sw_one (st_cmp o_gt (se_var (pv 5)) se_int (nomark _))))) (se_bin o_add (se_var (pv 2)) (se_fld nmOk (by decide) rfl (fun c hc => by cases Nat.eq_of_beq_eq_true hc; exact ⟨t.own_Book.cl, t.na_Book_bonus⟩) (se_var (pv 0)))) (se_var (pv 2))))
  (ss_one (st_set (i := 6) sc_Book_moved.nd rfl (Or.inl rfl) (se_ct g_int t.z_int (by decide +kernel) (sa_cons (se_and (se_var (pv 3)) (se_one (se_cmp o_gt (se_fld nmOk (by decide) rfl (fun c hc => by cases Nat.eq_of_beq_eq_true hc; exact ⟨t.own_Book.cl, t.na_Book_bonus⟩) (se_var (pv 0))) se_int (nomark _)))) sa_nil))))))
  (ss_one (st_ret (se_tup (sa_cons (se_cb (g_min2 rfl) t.z_min (by decide +kernel) (sa_cons (se_ct g_int t.z_int (by decide +kernel) (sa_cons (se_fld nmOk (by decide) rfl (fun c hc => by cases Nat.eq_of_beq_eq_true hc; exact ⟨t.own_Book.cl, t.na_Book_high⟩) (se_var (pv 0))) sa_nil)) (sa_cons (se_cb (g_max2 rfl) t.z_max (by decide +kernel) (sa_cons (se_ct g_int t.z_int (by decide +kernel) (sa_cons (se_fld nmOk (by decide) rfl (fun c hc => by cases Nat.eq_of_beq_eq_true hc; exact ⟨t.own_Book.cl, t.na_Book_low⟩) (se_var (pv 0))) sa_nil)) (sa_cons (se_ct g_int t.z_int (by decide +kernel) (sa_cons (se_var (pv 4)) sa_nil)) sa_nil))) sa_nil))) (sa_cons (se_var (pv 6)) sa_nil)))))))
theorem ok_Twins_many_games (t : Txt P K mg) : FnOk P w K mg base (L2.CX P w) 1 (He.ma K (He.ga K "Twins") "many_games") (fdOf K (He.ma K (He.ga K "Twins") "many_games")) ["self"] (spEv ⟨K, (TT K).ca, (TT K).nm, (TT K).fld, P, w, (TT K).ex⟩ c_Twins_many_games) :=
  fn_ok (T := TT K) fin_ok t.F_Twins_many_games sc_Twins_many_games fun cdv A outer s H E hr => (ss_cons (st_set (i := 1) sc_Twins_many_games.nd rfl (Or.inl rfl) se_d0T)
  (ss_cons (st_for (passes_of rfl) rfl (si_seq (se_fld nmOk (by decide) rfl (fun c hc => by cases Nat.eq_of_beq_eq_true hc; exact ⟨t.own_Twins.cl, t.na_Twins_pairs⟩) (se_var (pv 0)))) (pg_name (i := 2) sc_Twins_many_games.nd rfl (Or.inl rfl)) (gok_name (vs := [2]) (by simp)) (ss_cons (st_set (i := 3) sc_Twins_many_games.nd rfl (Or.inl rfl) (se_dget (u1 hr) (se_fld nmOk (by decide) rfl (fun c hc => by cases Nat.eq_of_beq_eq_true hc; exact ⟨t.own_Twins.cl, t.na_Twins_sources⟩) (se_var (pv 0))) (se_var (pv 2))))
  (ss_one (st_dput (u1 hr) (se_if (st_cmp o_is (se_var (pv 3)) se_non (nomark _)) se_int (se_bin o_add (se_bin o_add se_int (se_dget (u1 hr) (se_var (pv 1)) (se_ix (se_var (pv 3)) se_int))) (se_dget (u1 hr) (se_var (pv 1)) (se_ix (se_var (pv 3)) se_int)))) (se_var (pv 1)) (se_var (pv 2))))))
  (ss_one (st_ret (se_var (pv 1))))))
theorem ok_is_integer (t : Txt P K mg) : FnOk P w K mg base (L2.CX P w) 2 (He.ga K "is_integer") (fdOf K (He.ga K "is_integer")) ["value", "lowest", "highest"] (spEv ⟨K, (TT K).ca, (TT K).nm, (TT K).fld, P, w, (TT K).ex⟩ c_is_integer) :=
  fn_ok (T := TT K) fin_ok t.F_is_integer sc_is_integer fun cdv A outer s H E hr => (ss_one (st_ret (se_and (se_call (ok_is_whole t) (hr.mono (by decide)) rfl t.g_is_whole t.F_is_whole.kp (t.F_is_whole.binds fun _ _ _ _ _ _ us hl => match us, hl with | [_], _ => rfl) (takes_of rfl rfl rfl rfl) (sa_cons (se_var (pv 0)) sa_nil)) (se_one (se_chain2 o_le o_le (se_var (pv 1)) (se_var (pv 0)) (se_var (pv 2)))))))
theorem ok_Book_places (t : Txt P K mg) : FnOk P w K mg base (L2.CX P w) 2 (He.ma K (He.ga K "Book") "places") (fdOf K (He.ma K (He.ga K "Book") "places")) ["self"] (spEv ⟨K, (TT K).ca, (TT K).nm, (TT K).fld, P, w, (TT K).ex⟩ c_Book_places) :=
  fn_ok (T := TT K) fin_ok t.F_Book_places sc_Book_places fun cdv A outer s H E hr => (ss_cons (st_set (i := 1) sc_Book_places.nd rfl (Or.inr rfl) (se_lst (sl_rg1 rfl t.z_list t.z_range (se_bin o_add (se_meth0 (c := 30) (n := 7) nmOk (by decide) rfl t.own_Book.cl t.me_Book_last_phase (ok_Book_last_phase t) (hr.mono (by decide)) (t.F_Book_last_phase.binds fun _ _ _ _ _ _ us hl => match us, hl with | [_], _ => rfl) (takes_of rfl rfl rfl rfl) (se_var (pv 0))) se_int))))
  (ss_one (st_ret (se_lst (sl_comp2 (own := [("rating", 2), ("phase", 3)]) rfl sc_Book_places.nd (si_range2 rfl t.z_range (sa_cons (se_fld nmOk (by decide) rfl (fun c hc => by cases Nat.eq_of_beq_eq_true hc; exact ⟨t.own_Book.cl, t.na_Book_low⟩) (se_var (pv 0))) (sa_cons (se_bin o_add (se_fld nmOk (by decide) rfl (fun c hc => by cases Nat.eq_of_beq_eq_true hc; exact ⟨t.own_Book.cl, t.na_Book_high⟩) (se_var (pv 0))) se_int) sa_nil))) (blkOk_by (own := [("rating", 2), ("phase", 3)]) (N := N_Book_places) (sc := defScope (inClass (top 20) 8)) (by decide +kernel)) (by decide) (fun _ _ _ _ _ => (pg_name (i := 2) sc_Book_places.nd rfl (Or.inl rfl))) (gok_name (vs := [2, 3]) (by simp)) (fun _ _ _ _ _ => sts_nil) (fun _ _ _ _ _ => (si_seq (se_var (pv 1)))) (fun _ _ _ _ _ => (pg_name (i := 3) sc_Book_places.nd rfl (Or.inl rfl))) (gok_name (vs := [3]) (by simp)) (fun _ _ _ _ _ => sts_nil) (fun _ _ _ _ _ => (se_tup (sa_cons (se_var (pv 2)) (sa_cons (se_var (pv 3)) sa_nil)))))))))
theorem ok_is_entry (t : Txt P K mg) : FnOk P w K mg base (L2.CX P w) 3 (He.ga K "is_entry") (fdOf K (He.ga K "is_entry")) ["value"] (spEv ⟨K, (TT K).ca, (TT K).nm, (TT K).fld, P, w, (TT K).ex⟩ c_is_entry) :=
  fn_ok (T := TT K) fin_ok t.F_is_entry sc_is_entry fun cdv A outer s H E hr => (ss_cons (st_if (st_cmp o_is (se_var (pv 0)) se_non (nomark _)) (ss_one (st_ret se_bl)) ss_nil)
  (ss_one (st_ret (se_and (se_isi (b := .tuple) rfl t.z_isinstance (se_var (pv 0)) (ty_of t.z_tuple (by decide +kernel))) (se_and (se_cmp (o_eq hr.units) (se_it g_len t.z_len (by decide +kernel) (se_var (pv 0))) se_int (nomark _)) (se_one (se_ilL (g_all rfl) t.z_all (by decide +kernel) (sl_comp (own := [("change", 1)]) (b := (gN 1)) rfl sc_is_entry.nd (si_seq (se_var (pv 0))) (blkOk_by (own := [("change", 1)]) (N := N_is_entry) (sc := defScope (top 15)) (by decide +kernel)) (fun _ _ _ _ _ => (pg_name (i := 1) sc_is_entry.nd rfl (Or.inl rfl))) (gok_name (vs := [1]) (by simp)) (fun _ _ _ _ _ => sts_nil) (fun _ _ _ _ _ => (se_call (ok_is_integer t) (hr.mono (by decide)) rfl t.g_is_integer t.F_is_integer.kp (t.F_is_integer.binds fun _ _ _ _ _ _ us hl => match us, hl with | [_, _, _], _ => rfl) takes0 (sa_cons (se_var (pv 1)) (sa_cons (se_un o_neg se_int) (sa_cons se_int sa_nil)))))))))))))
theorem ok_check_rating (t : Txt P K mg) : FnOk P w K mg base (L2.CX P w) 3 (He.ga K "check_rating") (fdOf K (He.ga K "check_rating")) ["one", "other", "rating"] (spEv ⟨K, (TT K).ca, (TT K).nm, (TT K).fld, P, w, (TT K).ex⟩ c_check_rating) :=
  fn_ok (T := TT K) fin_ok t.F_check_rating sc_check_rating fun cdv A outer s H E hr => (ss_one (st_for (passes_of rfl) rfl (si_seq (se_tup (sa_cons (se_var (pv 0)) (sa_cons (se_var (pv 1)) sa_nil)))) (pg_name (i := 3) sc_check_rating.nd rfl (Or.inl rfl)) (gok_name (vs := [3]) (by simp)) (ss_one (st_if (st_not (st_val (se_call (ok_is_integer t) (hr.mono (by decide)) rfl t.g_is_integer t.F_is_integer.kp (t.F_is_integer.binds fun _ _ _ _ _ _ us hl => match us, hl with | [_, _, _], _ => rfl) (takes_of rfl rfl rfl rfl) (sa_cons (se_var (pv 2)) (sa_cons (se_fld nmOk (by decide) rfl (fun c hc => by cases Nat.eq_of_beq_eq_true hc; exact ⟨t.own_Book.cl, t.na_Book_low⟩) (se_var (pv 3))) (sa_cons (se_fld nmOk (by decide) rfl (fun c hc => by cases Nat.eq_of_beq_eq_true hc; exact ⟨t.own_Book.cl, t.na_Book_high⟩) (se_var (pv 3))) sa_nil)))))) (ss_one (st_raise (c := 3) rfl t.er_BadPlace hr t.g_BadPlace (takes_of rfl rfl rfl rfl) (se_var (pv 2)))) ss_nil))))
theorem ok_Book___len__ (t : Txt P K mg) : FnOk P w K mg base (L2.CX P w) 3 (He.ma K (He.ga K "Book") "__len__") (fdOf K (He.ma K (He.ga K "Book") "__len__")) ["self"] (spEv ⟨K, (TT K).ca, (TT K).nm, (TT K).fld, P, w, (TT K).ex⟩ c_Book___len__) :=
  fn_ok (T := TT K) fin_ok t.F_Book___len__ sc_Book___len__ fun cdv A outer s H E hr => (ss_one (st_ret (se_it g_len t.z_len (by decide +kernel) (se_meth0 (c := 30) (n := 6) nmOk (by decide) rfl t.own_Book.cl t.me_Book_places (ok_Book_places t) (hr.mono (by decide)) (t.F_Book_places.binds fun _ _ _ _ _ _ us hl => match us, hl with | [_], _ => rfl) (takes_of rfl rfl rfl rfl) (se_var (pv 0))))))
theorem ok_Book___contains__ (t : Txt P K mg) : FnOk P w K mg base (L2.CX P w) 3 (He.ma K (He.ga K "Book") "__contains__") (fdOf K (He.ma K (He.ga K "Book") "__contains__")) ["self", "place"] (spEv ⟨K, (TT K).ca, (TT K).nm, (TT K).fld, P, w, (TT K).ex⟩ c_Book___contains__) :=
  fn_ok (T := TT K) fin_ok t.F_Book___contains__ sc_Book___contains__ fun cdv A outer s H E hr => (ss_cons (st_if (st_bool (sw_or (st_not (st_val (se_isi (b := .tuple) rfl t.z_isinstance (se_var (pv 1)) (ty_of t.z_tuple (by decide +kernel))))) (sw_oneO (st_cmp (o_ne hr.units) (se_it g_len t.z_len (by decide +kernel) (se_var (pv 1))) se_int (nomark _))))) (ss_one (st_ret se_bl)) ss_nil)
  (ss_one (st_ret (se_and (se_call (ok_is_integer t) (hr.mono (by decide)) rfl t.g_is_integer t.F_is_integer.kp (t.F_is_integer.binds fun _ _ _ _ _ _ us hl => match us, hl with | [_, _, _], _ => rfl) (takes_of rfl rfl rfl rfl) (sa_cons (se_ix (se_var (pv 1)) se_int) (sa_cons (se_fld nmOk (by decide) rfl (fun c hc => by cases Nat.eq_of_beq_eq_true hc; exact ⟨t.own_Book.cl, t.na_Book_low⟩) (se_var (pv 0))) (sa_cons (se_fld nmOk (by decide) rfl (fun c hc => by cases Nat.eq_of_beq_eq_true hc; exact ⟨t.own_Book.cl, t.na_Book_high⟩) (se_var (pv 0))) sa_nil)))) (se_one (se_call (ok_is_integer t) (hr.mono (by decide)) rfl t.g_is_integer t.F_is_integer.kp (t.F_is_integer.binds fun _ _ _ _ _ _ us hl => match us, hl with | [_, _, _], _ => rfl) (takes_of rfl rfl rfl rfl) (sa_cons (se_ix (se_var (pv 1)) se_int) (sa_cons se_int (sa_cons (se_meth0 (c := 30) (n := 7) nmOk (by decide) rfl t.own_Book.cl t.me_Book_last_phase (ok_Book_last_phase t) (hr.mono (by decide)) (t.F_Book_last_phase.binds fun _ _ _ _ _ _ us hl => match us, hl with | [_], _ => rfl) (takes_of rfl rfl rfl rfl) (se_var (pv 0))) sa_nil)))))))))
theorem ok_Book_start (t : Txt P K mg) : FnOk P w K mg base (L2.CX P w) 3 (He.ma K (He.ga K "Book") "start") (fdOf K (He.ma K (He.ga K "Book") "start")) ["self", "rating"] (spEv ⟨K, (TT K).ca, (TT K).nm, (TT K).fld, P, w, (TT K).ex⟩ c_Book_start) :=
  fn_ok (T := TT K) fin_ok t.F_Book_start sc_Book_start fun cdv A outer s H E hr => (ss_cons (st_if (st_not (st_val (se_call (ok_is_integer t) (hr.mono (by decide)) rfl t.g_is_integer t.F_is_integer.kp (t.F_is_integer.binds fun _ _ _ _ _ _ us hl => match us, hl with | [_, _, _], _ => rfl) (takes_of rfl rfl rfl rfl) (sa_cons (se_var (pv 1)) (sa_cons (se_fld nmOk (by decide) rfl (fun c hc => by cases Nat.eq_of_beq_eq_true hc; exact ⟨t.own_Book.cl, t.na_Book_low⟩) (se_var (pv 0))) (sa_cons (se_fld nmOk (by decide) rfl (fun c hc => by cases Nat.eq_of_beq_eq_true hc; exact ⟨t.own_Book.cl, t.na_Book_high⟩) (se_var (pv 0))) sa_nil)))))) (ss_one (st_raise (c := 3) rfl t.er_BadPlace hr t.g_BadPlace (takes_of rfl rfl rfl rfl) (se_var (pv 1)))) ss_nil)
  (ss_one (st_ret (se_tup (sa_cons (se_var (pv 1)) (sa_cons (se_fld nmOk (by decide) rfl (fun c hc => by cases Nat.eq_of_beq_eq_true hc; exact ⟨t.own_Book.cl, t.na_Book_fresh⟩) (se_var (pv 0))) sa_nil))))))
theorem ok_is_table_row (t : Txt P K mg) : FnOk P w K mg base (L2.CX P w) 4 (He.ga K "is_table_row") (fdOf K (He.ga K "is_table_row")) ["value"] (spEv ⟨K, (TT K).ca, (TT K).nm, (TT K).fld, P, w, (TT K).ex⟩ c_is_table_row) :=
  fn_ok (T := TT K) fin_ok t.F_is_table_row sc_is_table_row fun cdv A outer s H E hr => (ss_cons (st_if (st_bool (sw_or (st_not (st_val (se_isi (b := .tuple) rfl t.z_isinstance (se_var (pv 0)) (ty_of t.z_tuple (by decide +kernel))))) (sw_or (st_cmp (o_ne hr.units) (se_it g_len t.z_len (by decide +kernel) (se_var (pv 0))) se_int (nomark _)) (sw_oneO (st_not (st_val (se_call (ok_is_integer t) (hr.mono (by decide)) rfl t.g_is_integer t.F_is_integer.kp (t.F_is_integer.binds fun _ _ _ _ _ _ us hl => match us, hl with | [_, _, _], _ => rfl) (takes_of rfl rfl rfl rfl) (sa_cons (se_ix (se_var (pv 0)) se_int) (sa_cons se_int (sa_cons (se_con t.con_MOST_RATING) sa_nil)))))))))) (ss_one (st_ret se_bl)) ss_nil)
  (ss_one (st_ret (se_ilL (g_all rfl) t.z_all (by decide +kernel) (sl_comp (own := [("entry", 1)]) (b := (gN 1)) rfl sc_is_table_row.nd (si_seq (se_cutA (se_var (pv 0)) (so_some se_int) so_none)) (blkOk_by (own := [("entry", 1)]) (N := N_is_table_row) (sc := defScope (top 16)) (by decide +kernel)) (fun _ _ _ _ _ => (pg_name (i := 1) sc_is_table_row.nd rfl (Or.inl rfl))) (gok_name (vs := [1]) (by simp)) (fun _ _ _ _ _ => sts_nil) (fun _ _ _ _ _ => (se_call (ok_is_entry t) (hr.mono (by decide)) rfl t.g_is_entry t.F_is_entry.kp (t.F_is_entry.binds fun _ _ _ _ _ _ us hl => match us, hl with | [_], _ => rfl) takes0 (sa_cons (se_var (pv 1)) sa_nil))))))))
theorem ok_Book_game (t : Txt P K mg) : FnOk P w K mg base (L2.CX P w) 4 (He.ma K (He.ga K "Book") "game") (fdOf K (He.ma K (He.ga K "Book") "game")) ["self", "upper", "lower", "result"] (spEv ⟨K, (TT K).ca, (TT K).nm, (TT K).fld, P, w, (TT K).ex⟩ c_Book_game) :=
  fn_ok (T := TT K) fin_ok t.F_Book_game sc_Book_game fun cdv A outer s H E hr => (ss_cons (st_for (passes_of rfl) rfl (si_seq (se_tup (sa_cons (se_var (pv 1)) (sa_cons (se_var (pv 2)) sa_nil)))) (pg_name (i := 4) sc_Book_game.nd rfl (Or.inl rfl)) (gok_name (vs := [4]) (by simp)) (ss_one (st_if (st_notInO (c := 30) t.du_Book___contains__ (ok_Book___contains__ t) (hr.mono (by decide)) (t.F_Book___contains__.binds fun _ _ _ _ _ _ us hl => match us, hl with | [_, _], _ => rfl) (takes_of rfl rfl rfl rfl) (se_var (pv 4)) (se_var (pv 0)) (by with_unfolding_all rfl)) (ss_one (st_raise (c := 3) rfl t.er_BadPlace hr t.g_BadPlace (takes_of rfl rfl rfl rfl) (se_var (pv 4)))) ss_nil)))
  (ss_cons (st_if (st_not (st_val (se_call (ok_is_result t) (hr.mono (by decide)) rfl t.g_is_result t.F_is_result.kp (t.F_is_result.binds fun _ _ _ _ _ _ us hl => match us, hl with | [_], _ => rfl) (takes_of rfl rfl rfl rfl) (sa_cons (se_var (pv 3)) sa_nil)))) (ss_one (st_raise (c := 4) rfl t.er_BadGame hr t.g_BadGame (takes_of rfl rfl rfl rfl) (se_var (pv 3)))) ss_nil)
  (ss_cons (st_if (st_cmp o_gt (se_ix (se_var (pv 2)) se_int) (se_ix (se_var (pv 1)) se_int) (nomark _)) (ss_one (st_raise (c := 4) rfl t.er_BadGame hr t.g_BadGame (takes_of rfl rfl rfl rfl) (se_var (pv 2)))) ss_nil)
  (ss_cons (st_set (i := 5) sc_Book_game.nd rfl (Or.inl rfl) (se_ix (se_call (ok_row_at t) (hr.mono (by decide)) rfl t.g_row_at t.F_row_at.kp (t.F_row_at.binds fun _ _ _ _ _ _ us hl => match us, hl with | [_, _], _ => rfl) (takes_of rfl rfl rfl rfl) (sa_cons (se_fld nmOk (by decide) rfl (fun c hc => by cases Nat.eq_of_beq_eq_true hc; exact ⟨t.own_Book.cl, t.na_Book_table⟩) (se_var (pv 0))) (sa_cons (se_bin o_sub (se_ix (se_var (pv 1)) se_int) (se_ix (se_var (pv 2)) se_int)) sa_nil))) (se_bin o_add se_int (se_idxC (ys := ["upper", "draw", "lower"]) t.con_RESULTS t.td_RESULTS (se_var (pv 3))))))
  (ss_cons (st_if (st_cmp o_is (se_var (pv 5)) se_non (nomark _)) (ss_one (st_ret se_non)) ss_nil)
  (ss_one (st_ret (se_tup (sa_cons (se_meth (c := 30) (n := 10) nmOk (by decide) rfl t.own_Book.cl t.me_Book_moved (ok_Book_moved t) (hr.mono (by decide)) (t.F_Book_moved.binds fun _ _ _ _ _ _ us hl => match us, hl with | [_, _, _, _], _ => rfl) (takes_of rfl rfl rfl rfl) (se_var (pv 0)) (sa_cons (se_var (pv 1)) (sa_cons (se_ix (se_var (pv 5)) se_int) (sa_cons (se_cmp (o_eq hr.units) (se_var (pv 3)) se_str (nomark _)) sa_nil)))) (sa_cons (se_meth (c := 30) (n := 10) nmOk (by decide) rfl t.own_Book.cl t.me_Book_moved (ok_Book_moved t) (hr.mono (by decide)) (t.F_Book_moved.binds fun _ _ _ _ _ _ us hl => match us, hl with | [_, _, _, _], _ => rfl) (takes_of rfl rfl rfl rfl) (se_var (pv 0)) (sa_cons (se_var (pv 2)) (sa_cons (se_ix (se_var (pv 5)) se_int) (sa_cons (se_cmp (o_eq hr.units) (se_var (pv 3)) se_str (nomark _)) sa_nil)))) sa_nil))))))))))
theorem ok_is_table (t : Txt P K mg) : FnOk P w K mg base (L2.CX P w) 5 (He.ga K "is_table") (fdOf K (He.ga K "is_table")) ["value"] (spEv ⟨K, (TT K).ca, (TT K).nm, (TT K).fld, P, w, (TT K).ex⟩ c_is_table) :=
  fn_ok (T := TT K) fin_ok t.F_is_table sc_is_table fun cdv A outer s H E hr => (ss_cons (st_if (st_bool (sw_or (st_not (st_val (se_isi2 (b := .list) (c := .tuple) rfl t.z_isinstance (se_var (pv 0)) (ty_of t.z_list (by decide +kernel)) (ty_of t.z_tuple (by decide +kernel))))) (sw_oneO (st_not (st_chain2 o_le o_le se_int (se_it g_len t.z_len (by decide +kernel) (se_var (pv 0))) (se_con t.con_MOST_ROWS)))))) (ss_one (st_ret se_bl)) ss_nil)
  (ss_cons (st_if (st_bool (sw_or (st_not (st_val (se_ilL (g_all rfl) t.z_all (by decide +kernel) (sl_comp (own := [("row", 1)]) (b := (gN 1)) rfl sc_is_table.nd (si_seq (se_var (pv 0))) (blkOk_by (own := [("row", 1)]) (N := N_is_table) (sc := defScope (top 17)) (by decide +kernel)) (fun _ _ _ _ _ => (pg_name (i := 1) sc_is_table.nd rfl (Or.inl rfl))) (gok_name (vs := [1]) (by simp)) (fun _ _ _ _ _ => sts_nil) (fun _ _ _ _ _ => (se_call (ok_is_table_row t) (hr.mono (by decide)) rfl t.g_is_table_row t.F_is_table_row.kp (t.F_is_table_row.binds fun _ _ _ _ _ _ us hl => match us, hl with | [_], _ => rfl) takes0 (sa_cons (se_var (pv 1)) sa_nil))))))) (sw_oneO (st_cmp (o_ne hr.units) (se_ix (se_ix (se_var (pv 0)) se_int) se_int) se_int (nomark _))))) (ss_one (st_ret se_bl)) ss_nil)
  (ss_one (st_ret (se_ilL (g_all rfl) t.z_all (by decide +kernel) (sl_comp (own := [("one", 2), ("other", 3)]) (b := (gT [2, 3])) rfl sc_is_table.nd (si_zipW rfl t.z_zip (sa_cons (se_var (pv 0)) (sa_cons (se_cutA (se_var (pv 0)) (so_some se_int) so_none) sa_nil))) (blkOk_by (own := [("one", 2), ("other", 3)]) (N := N_is_table) (sc := defScope (top 17)) (by decide +kernel)) (fun _ _ _ _ _ => (pg_tup (n := 2) (t := gsNames [2, 3]) rfl (pgs_cons (pg_name (i := 2) sc_is_table.nd rfl (Or.inl rfl)) (pgs_cons (pg_name (i := 3) sc_is_table.nd rfl (Or.inl rfl)) pgs_nil)))) (gok_tup (is := [2, 3]) (vs := [2, 3]) (by simp)) (fun _ _ _ _ _ => sts_nil) (fun _ _ _ _ _ => (se_cmp o_lt (se_ix (se_var (pv 2)) se_int) (se_ix (se_var (pv 3)) se_int) (nomark _)))))))))
theorem ok_Twins_take (t : Txt P K mg) : FnOk P w K mg base (L2.CX P w) 5 (He.ma K (He.ga K "Twins") "take") (fdOf K (He.ma K (He.ga K "Twins") "take")) ["self", "upper", "lower", "result"] (spEv ⟨K, (TT K).ca, (TT K).nm, (TT K).fld, P, w, (TT K).ex⟩ c_Twins_take) :=
  fn_ok (T := TT K) fin_ok t.F_Twins_take sc_Twins_take fun cdv A outer s H E hr => (ss_cons (st_set (i := 4) sc_Twins_take.nd rfl (Or.inl rfl) (se_meth (c := 30) (n := 11) nmOk (by decide) rfl t.own_Book.cl t.me_Book_game (ok_Book_game t) (hr.mono (by decide)) (t.F_Book_game.binds fun _ _ _ _ _ _ us hl => match us, hl with | [_, _, _, _], _ => rfl) (takes_of rfl rfl rfl rfl) (se_fld nmOk (by decide) rfl (fun c hc => by cases Nat.eq_of_beq_eq_true hc; exact ⟨t.own_Twins.cl, t.na_Twins_one⟩) (se_var (pv 0))) (sa_cons (se_ix (se_var (pv 1)) se_int) (sa_cons (se_ix (se_var (pv 2)) se_int) (sa_cons (se_var (pv 3)) sa_nil)))))
  (ss_cons (st_set (i := 5) sc_Twins_take.nd rfl (Or.inl rfl) (se_meth (c := 30) (n := 11) nmOk (by decide) rfl t.own_Book.cl t.me_Book_game (ok_Book_game t) (hr.mono (by decide)) (t.F_Book_game.binds fun _ _ _ _ _ _ us hl => match us, hl with | [_, _, _, _], _ => rfl) (takes_of rfl rfl rfl rfl) (se_fld nmOk (by decide) rfl (fun c hc => by cases Nat.eq_of_beq_eq_true hc; exact ⟨t.own_Twins.cl, t.na_Twins_other⟩) (se_var (pv 0))) (sa_cons (se_ix (se_var (pv 1)) se_int) (sa_cons (se_ix (se_var (pv 2)) se_int) (sa_cons (se_var (pv 3)) sa_nil)))))
  (ss_cons (st_if (st_bool (sw_and (st_cmp o_is (se_var (pv 4)) se_non (nomark _)) (sw_one (st_cmp o_is (se_var (pv 5)) se_non (nomark _))))) (ss_one st_retN) ss_nil)
  (ss_one (st_if (st_bool (sw_or (st_cmp o_is (se_var (pv 4)) se_non (nomark _)) (sw_oneO (st_cmp o_is (se_var (pv 5)) se_non (nomark _))))) (ss_one (st_fld nmOk (by decide) rfl (fun c hc => by cases Nat.eq_of_beq_eq_true hc; exact ⟨t.own_Twins.cl, t.na_Twins_fault⟩) (se_var (pv 0)) (se_tup (sa_cons (se_var (pv 1)) (sa_cons (se_var (pv 2)) (sa_cons (se_var (pv 3)) (sa_cons se_str sa_nil))))))) (ss_one (st_if (st_cmp (o_ne hr.units) (se_lst (sl_comp (own := [("place", 8)]) (b := (gN 8)) rfl sc_Twins_take.nd (si_seq (se_var (pv 4))) (blkOk_by (own := [("place", 8)]) (N := N_Twins_take) (sc := defScope (inClass (top 23) 2)) (by decide +kernel)) (fun _ _ _ _ _ => (pg_name (i := 8) sc_Twins_take.nd rfl (Or.inl rfl))) (gok_name (vs := [8]) (by simp)) (fun _ _ _ _ _ => sts_nil) (fun _ _ _ _ _ => (se_ix (se_var (pv 8)) se_int)))) (se_lst (sl_comp (own := [("place", 8)]) (b := (gN 8)) rfl sc_Twins_take.nd (si_seq (se_var (pv 5))) (blkOk_by (own := [("place", 8)]) (N := N_Twins_take) (sc := defScope (inClass (top 23) 2)) (by decide +kernel)) (fun _ _ _ _ _ => (pg_name (i := 8) sc_Twins_take.nd rfl (Or.inl rfl))) (gok_name (vs := [8]) (by simp)) (fun _ _ _ _ _ => sts_nil) (fun _ _ _ _ _ => (se_ix (se_var (pv 8)) se_int)))) (nomark _)) (ss_one (st_fld nmOk (by decide) rfl (fun c hc => by cases Nat.eq_of_beq_eq_true hc; exact ⟨t.own_Twins.cl, t.na_Twins_fault⟩) (se_var (pv 0)) (se_tup (sa_cons (se_var (pv 1)) (sa_cons (se_var (pv 2)) (sa_cons (se_var (pv 3)) (sa_cons se_str sa_nil))))))) (ss_one (st_for (passes_of rfl) rfl (si_seq (se_tup (sa_cons se_int (sa_cons se_int sa_nil)))) (pg_name (i := 6) sc_Twins_take.nd rfl (Or.inl rfl)) (gok_name (vs := [6]) (by simp)) (ss_cons (st_set (i := 7) sc_Twins_take.nd rfl (Or.inl rfl) (se_tup (sa_cons (se_ix (se_var (pv 4)) (se_var (pv 6))) (sa_cons (se_ix (se_var (pv 5)) (se_var (pv 6))) sa_nil))))
  (ss_one (st_if (st_cmp (o_dnotIn (u1 hr)) (se_var (pv 7)) (se_fld nmOk (by decide) rfl (fun c hc => by cases Nat.eq_of_beq_eq_true hc; exact ⟨t.own_Twins.cl, t.na_Twins_sources⟩) (se_var (pv 0))) (by with_unfolding_all rfl)) (ss_cons (st_dput (u1 hr) (se_tup (sa_cons (se_var (pv 1)) (sa_cons (se_var (pv 2)) (sa_cons (se_var (pv 3)) (sa_cons (se_var (pv 6)) sa_nil))))) (se_fld nmOk (by decide) rfl (fun c hc => by cases Nat.eq_of_beq_eq_true hc; exact ⟨t.own_Twins.cl, t.na_Twins_sources⟩) (se_var (pv 0))) (se_var (pv 7)))
  (ss_one (st_ex (se_app (se_fld nmOk (by decide) rfl (fun c hc => by cases Nat.eq_of_beq_eq_true hc; exact ⟨t.own_Twins.cl, t.na_Twins_pairs⟩) (se_var (pv 0))) (se_var (pv 7)))))) ss_nil))))))))))))
theorem ok_Book___init__ (t : Txt P K mg) : FnOk P w K mg base (L2.CX P w) 6 (He.ma K (He.ga K "Book") "__init__") (fdOf K (He.ma K (He.ga K "Book") "__init__")) ["self", "low", "high", "table", "fresh", "times", "bonus"] (spEv ⟨K, (TT K).ca, (TT K).nm, (TT K).fld, P, w, (TT K).ex⟩ c_Book___init__) :=
  fn_ok (T := TT K) fin_ok t.F_Book___init__ sc_Book___init__ fun cdv A outer s H E hr => (ss_cons (st_if (st_not (st_val (se_call (ok_is_integer t) (hr.mono (by decide)) rfl t.g_is_integer t.F_is_integer.kp (t.F_is_integer.binds fun _ _ _ _ _ _ us hl => match us, hl with | [_, _, _], _ => rfl) (takes_of rfl rfl rfl rfl) (sa_cons (se_var (pv 1)) (sa_cons se_int (sa_cons (se_con t.con_MOST_RATING) sa_nil)))))) (ss_one (st_raise (c := 2) rfl t.er_BadBook hr t.g_BadBook (takes_of rfl rfl rfl rfl) se_str)) ss_nil)
  (ss_cons (st_if (st_not (st_val (se_call (ok_is_integer t) (hr.mono (by decide)) rfl t.g_is_integer t.F_is_integer.kp (t.F_is_integer.binds fun _ _ _ _ _ _ us hl => match us, hl with | [_, _, _], _ => rfl) (takes_of rfl rfl rfl rfl) (sa_cons (se_var (pv 2)) (sa_cons (se_var (pv 1)) (sa_cons (se_con t.con_MOST_RATING) sa_nil)))))) (ss_one (st_raise (c := 2) rfl t.er_BadBook hr t.g_BadBook (takes_of rfl rfl rfl rfl) se_str)) ss_nil)
  (ss_cons (st_if (st_not (st_val (se_call (ok_is_table t) (hr.mono (by decide)) rfl t.g_is_table t.F_is_table.kp (t.F_is_table.binds fun _ _ _ _ _ _ us hl => match us, hl with | [_], _ => rfl) (takes_of rfl rfl rfl rfl) (sa_cons (se_var (pv 3)) sa_nil)))) (ss_one (st_raise (c := 2) rfl t.er_BadBook hr t.g_BadBook (takes_of rfl rfl rfl rfl) se_str)) ss_nil)
  (ss_cons (st_if (st_not (st_val (se_call (ok_is_integer t) (hr.mono (by decide)) rfl t.g_is_integer t.F_is_integer.kp (t.F_is_integer.binds fun _ _ _ _ _ _ us hl => match us, hl with | [_, _, _], _ => rfl) (takes_of rfl rfl rfl rfl) (sa_cons (se_var (pv 4)) (sa_cons se_int (sa_cons se_int sa_nil)))))) (ss_one (st_raise (c := 2) rfl t.er_BadBook hr t.g_BadBook (takes_of rfl rfl rfl rfl) se_str)) ss_nil)
  (ss_cons (st_if (st_not (st_val (se_call (ok_is_integer t) (hr.mono (by decide)) rfl t.g_is_integer t.F_is_integer.kp (t.F_is_integer.binds fun _ _ _ _ _ _ us hl => match us, hl with | [_, _, _], _ => rfl) (takes_of rfl rfl rfl rfl) (sa_cons (se_var (pv 5)) (sa_cons se_int (sa_cons (se_if (st_cmp o_gt (se_var (pv 4)) se_int (nomark _)) se_int se_int) sa_nil)))))) (ss_one (st_raise (c := 2) rfl t.er_BadBook hr t.g_BadBook (takes_of rfl rfl rfl rfl) se_str)) ss_nil)
  (ss_cons (st_if (st_not (st_val (se_call (ok_is_integer t) (hr.mono (by decide)) rfl t.g_is_integer t.F_is_integer.kp (t.F_is_integer.binds fun _ _ _ _ _ _ us hl => match us, hl with | [_, _, _], _ => rfl) (takes_of rfl rfl rfl rfl) (sa_cons (se_var (pv 6)) (sa_cons se_int (sa_cons (se_if (st_cmp (o_eq hr.units) (se_var (pv 4)) se_int (nomark _)) se_int se_int) sa_nil)))))) (ss_one (st_raise (c := 2) rfl t.er_BadBook hr t.g_BadBook (takes_of rfl rfl rfl rfl) se_str)) ss_nil)
  (ss_cons (st_fld nmOk (by decide) rfl (fun c hc => by cases Nat.eq_of_beq_eq_true hc; exact ⟨t.own_Book.cl, t.na_Book_low⟩) (se_var (pv 0)) (se_var (pv 1)))
  (ss_cons (st_fld nmOk (by decide) rfl (fun c hc => by cases Nat.eq_of_beq_eq_true hc; exact ⟨t.own_Book.cl, t.na_Book_high⟩) (se_var (pv 0)) (se_var (pv 2)))
  (ss_cons (st_fld nmOk (by decide) rfl (fun c hc => by cases Nat.eq_of_beq_eq_true hc; exact ⟨t.own_Book.cl, t.na_Book_table⟩) (se_var (pv 0)) (se_tit g_tuple t.z_tuple (by decide +kernel) (se_var (pv 3))))
  (ss_cons (st_fld nmOk (by decide) rfl (fun c hc => by cases Nat.eq_of_beq_eq_true hc; exact ⟨t.own_Book.cl, t.na_Book_fresh⟩) (se_var (pv 0)) (se_var (pv 4)))
  (ss_cons (st_fld nmOk (by decide) rfl (fun c hc => by cases Nat.eq_of_beq_eq_true hc; exact ⟨t.own_Book.cl, t.na_Book_times⟩) (se_var (pv 0)) (se_var (pv 5)))
  (ss_cons (st_fld nmOk (by decide) rfl (fun c hc => by cases Nat.eq_of_beq_eq_true hc; exact ⟨t.own_Book.cl, t.na_Book_bonus⟩) (se_var (pv 0)) (se_var (pv 6)))
  (ss_one (st_if (st_cmp o_gt (se_lenO (c := 30) t.du_Book___len__ (ok_Book___len__ t) (hr.mono (by decide)) (t.F_Book___len__.binds fun _ _ _ _ _ _ us hl => match us, hl with | [_], _ => rfl) t.z_len (se_var (pv 0))) (se_con t.con_MOST_PLACES) (nomark _)) (ss_one (st_raise (c := 25) rfl t.er_TooMany hr t.g_TooMany (takes_of rfl rfl rfl rfl) (se_con t.con_MOST_PLACES))) ss_nil))))))))))))))
theorem ok_Twins_look_at (t : Txt P K mg) : FnOk P w K mg base (L2.CX P w) 6 (He.ma K (He.ga K "Twins") "look_at") (fdOf K (He.ma K (He.ga K "Twins") "look_at")) ["self", "at"] (spEv ⟨K, (TT K).ca, (TT K).nm, (TT K).fld, P, w, (TT K).ex⟩ c_Twins_look_at) :=
  fn_ok (T := TT K) fin_ok t.F_Twins_look_at sc_Twins_look_at fun cdv A outer s H E hr => (ss_one (st_for (passes_of rfl) rfl (si_range1 rfl t.z_range (sa_cons (se_bin o_add (se_var (pv 1)) se_int) sa_nil)) (pg_name (i := 2) sc_Twins_look_at.nd rfl (Or.inl rfl)) (gok_name (vs := [2]) (by simp)) (ss_one (st_for (passes_of rfl) rfl (si_seq (se_tup (sa_cons (se_tup (sa_cons (se_ix (se_fld nmOk (by decide) rfl (fun c hc => by cases Nat.eq_of_beq_eq_true hc; exact ⟨t.own_Twins.cl, t.na_Twins_pairs⟩) (se_var (pv 0))) (se_var (pv 1))) (sa_cons (se_ix (se_fld nmOk (by decide) rfl (fun c hc => by cases Nat.eq_of_beq_eq_true hc; exact ⟨t.own_Twins.cl, t.na_Twins_pairs⟩) (se_var (pv 0))) (se_var (pv 2))) sa_nil))) (sa_cons (se_tup (sa_cons (se_ix (se_fld nmOk (by decide) rfl (fun c hc => by cases Nat.eq_of_beq_eq_true hc; exact ⟨t.own_Twins.cl, t.na_Twins_pairs⟩) (se_var (pv 0))) (se_var (pv 2))) (sa_cons (se_ix (se_fld nmOk (by decide) rfl (fun c hc => by cases Nat.eq_of_beq_eq_true hc; exact ⟨t.own_Twins.cl, t.na_Twins_pairs⟩) (se_var (pv 0))) (se_var (pv 1))) sa_nil))) sa_nil)))) (pg_tup (n := 2) (t := gsNames [3, 4]) rfl (pgs_cons (pg_name (i := 3) sc_Twins_look_at.nd rfl (Or.inl rfl)) (pgs_cons (pg_name (i := 4) sc_Twins_look_at.nd rfl (Or.inl rfl)) pgs_nil))) (gok_tup (is := [3, 4]) (vs := [3, 4]) (by simp)) (ss_one (st_for (passes_of rfl) rfl (si_seq (se_if (st_cmp o_le (se_ix (se_ix (se_var (pv 4)) se_int) se_int) (se_ix (se_ix (se_var (pv 3)) se_int) se_int) (nomark _)) (se_con t.con_RESULTS) (se_tup sa_nil))) (pg_name (i := 5) sc_Twins_look_at.nd rfl (Or.inl rfl)) (gok_name (vs := [5]) (by simp)) (ss_one (st_if (st_cmp o_is (se_fld nmOk (by decide) rfl (fun c hc => by cases Nat.eq_of_beq_eq_true hc; exact ⟨t.own_Twins.cl, t.na_Twins_fault⟩) (se_var (pv 0))) se_non (nomark _)) (ss_one (st_ex (se_meth (c := 41) (n := 31) nmOk (by decide) rfl t.own_Twins.cl t.me_Twins_take (ok_Twins_take t) (hr.mono (by decide)) (t.F_Twins_take.binds fun _ _ _ _ _ _ us hl => match us, hl with | [_, _, _, _], _ => rfl) (takes_of rfl rfl rfl rfl) (se_var (pv 0)) (sa_cons (se_var (pv 3)) (sa_cons (se_var (pv 4)) (sa_cons (se_var (pv 5)) sa_nil)))))) ss_nil))))))))
theorem ok_Twins___init__ (t : Txt P K mg) : FnOk P w K mg base (L2.CX P w) 7 (He.ma K (He.ga K "Twins") "__init__") (fdOf K (He.ma K (He.ga K "Twins") "__init__")) ["self", "one", "other", "rating"] (spEv ⟨K, (TT K).ca, (TT K).nm, (TT K).fld, P, w, (TT K).ex⟩ c_Twins___init__) :=
  fn_ok (T := TT K) fin_ok t.F_Twins___init__ sc_Twins___init__ fun cdv A outer s H E hr => (ss_cons (st_fld nmOk (by decide) rfl (fun c hc => by cases Nat.eq_of_beq_eq_true hc; exact ⟨t.own_Twins.cl, t.na_Twins_one⟩) (se_var (pv 0)) (se_var (pv 1)))
  (ss_cons (st_fld nmOk (by decide) rfl (fun c hc => by cases Nat.eq_of_beq_eq_true hc; exact ⟨t.own_Twins.cl, t.na_Twins_other⟩) (se_var (pv 0)) (se_var (pv 2)))
  (ss_cons (st_set (i := 4) sc_Twins___init__.nd rfl (Or.inl rfl) (se_tup (sa_cons (se_meth (c := 30) (n := 9) nmOk (by decide) rfl t.own_Book.cl t.me_Book_start (ok_Book_start t) (hr.mono (by decide)) (t.F_Book_start.binds fun _ _ _ _ _ _ us hl => match us, hl with | [_, _], _ => rfl) (takes_of rfl rfl rfl rfl) (se_var (pv 1)) (sa_cons (se_var (pv 3)) sa_nil)) (sa_cons (se_meth (c := 30) (n := 9) nmOk (by decide) rfl t.own_Book.cl t.me_Book_start (ok_Book_start t) (hr.mono (by decide)) (t.F_Book_start.binds fun _ _ _ _ _ _ us hl => match us, hl with | [_, _], _ => rfl) (takes_of rfl rfl rfl rfl) (se_var (pv 2)) (sa_cons (se_var (pv 3)) sa_nil)) sa_nil))))
  (ss_cons (st_fld nmOk (by decide) rfl (fun c hc => by cases Nat.eq_of_beq_eq_true hc; exact ⟨t.own_Twins.cl, t.na_Twins_pairs⟩) (se_var (pv 0)) (se_new (sl_lst (sa_cons (se_var (pv 4)) sa_nil))))
  (ss_cons (st_fld nmOk (by decide) rfl (fun c hc => by cases Nat.eq_of_beq_eq_true hc; exact ⟨t.own_Twins.cl, t.na_Twins_sources⟩) (se_var (pv 0)) (se_dispNK (u1 hr) (sp_cons (se_var (pv 4)) se_non sp_nil)))
  (ss_cons (st_fld nmOk (by decide) rfl (fun c hc => by cases Nat.eq_of_beq_eq_true hc; exact ⟨t.own_Twins.cl, t.na_Twins_fault⟩) (se_var (pv 0)) se_non)
  (ss_cons (st_fld nmOk (by decide) rfl (fun c hc => by cases Nat.eq_of_beq_eq_true hc; exact ⟨t.own_Twins.cl, t.na_Twins_many_players⟩) (se_var (pv 0)) se_int)
  (ss_cons (st_set (i := 5) sc_Twins___init__.nd rfl (Or.inl rfl) se_int)
  (ss_one (st_while 5000 (passes_of rfl) (st_bool (sw_and (st_cmp o_is (se_fld nmOk (by decide) rfl (fun c hc => by cases Nat.eq_of_beq_eq_true hc; exact ⟨t.own_Twins.cl, t.na_Twins_fault⟩) (se_var (pv 0))) se_non (nomark _)) (sw_one (st_cmp o_lt (se_var (pv 5)) (se_it g_len t.z_len (by decide +kernel) (se_fld nmOk (by decide) rfl (fun c hc => by cases Nat.eq_of_beq_eq_true hc; exact ⟨t.own_Twins.cl, t.na_Twins_pairs⟩) (se_var (pv 0)))) (nomark _))))) (ss_cons (st_ex (se_meth (c := 41) (n := 30) nmOk (by decide) rfl t.own_Twins.cl t.me_Twins_look_at (ok_Twins_look_at t) (hr.mono (by decide)) (t.F_Twins_look_at.binds fun _ _ _ _ _ _ us hl => match us, hl with | [_, _], _ => rfl) (takes_of rfl rfl rfl rfl) (se_var (pv 0)) (sa_cons (se_var (pv 5)) sa_nil)))
  (ss_one (st_aug (i := 5) sc_Twins___init__.nd rfl (Or.inl rfl) ip_add se_int)))))))))))))
theorem ok_are_alike (t : Txt P K mg) : FnOk P w K mg base (L2.CX P w) 9 (He.ga K "are_alike") (fdOf K (He.ga K "are_alike")) ["one", "other", "rating"] (spEv ⟨K, (TT K).ca, (TT K).nm, (TT K).fld, P, w, (TT K).ex⟩ c_are_alike) :=
  fn_ok (T := TT K) fin_ok t.F_are_alike sc_are_alike fun cdv A outer s H E hr => (ss_cons (st_ex (se_call (ok_check_rating t) (hr.mono (by decide)) rfl t.g_check_rating t.F_check_rating.kp (t.F_check_rating.binds fun _ _ _ _ _ _ us hl => match us, hl with | [_, _, _], _ => rfl) (takes_of rfl rfl rfl rfl) (sa_cons (se_var (pv 0)) (sa_cons (se_var (pv 1)) (sa_cons (se_var (pv 2)) sa_nil)))))
  (ss_one (st_ret (se_cmp o_is (se_fld nmOk (by decide) rfl (fun c hc => by cases Nat.eq_of_beq_eq_true hc; exact ⟨t.own_Twins.cl, t.na_Twins_fault⟩) (se_make (c := 41) finI_ok t.g_Twins t.mk_Twins (ok_Twins___init__ t) (hr.mono (by decide)) (t.F_Twins___init__.binds fun _ _ _ _ _ _ us hl => match us, hl with | [_, _, _, _], _ => rfl) (takes_of rfl rfl rfl rfl) (sa_cons (se_var (pv 0)) (sa_cons (se_var (pv 1)) (sa_cons (se_var (pv 2)) sa_nil))))) se_non (nomark _)))))
theorem okz_Twins_put_games (t : Txt P K mg) : ∀ n : Nat, (FnOk P w K mg base (L2.CX P w) (0 + n + 1) (He.ma K (He.ga K "Twins") "put_games") (fdOf K (He.ma K (He.ga K "Twins") "put_games")) ["self", "pair", "games"] (spEv ⟨K, (TT K).ca, (TT K).nm, (TT K).fld, P, w, (TT K).ex⟩ (cz_Twins_put_games n).1)) ∧ (FnOk P w K mg base (L2.CX P w) (0 + n + 1) (He.ma K (He.ga K "Twins") "put_game") (fdOf K (He.ma K (He.ga K "Twins") "put_game")) ["self", "source", "games"] (spEv ⟨K, (TT K).ca, (TT K).nm, (TT K).fld, P, w, (TT K).ex⟩ (cz_Twins_put_games n).2))
  | 0 => ⟨fn_ok (T := TT K) fin_ok t.F_Twins_put_games sc_Twins_put_games fun cdv A outer s H E hr => ss_stuck, fn_ok (T := TT K) fin_ok t.F_Twins_put_game sc_Twins_put_game fun cdv A outer s H E hr => ss_stuck⟩
  | n + 1 => by
    have ih := okz_Twins_put_games t n
    obtain ⟨ih_Twins_put_games, ih_Twins_put_game⟩ := ih
    exact ⟨fn_ok (T := TT K) fin_ok t.F_Twins_put_games sc_Twins_put_games fun cdv A outer s H E hr => (ss_cons (st_set (i := 3) sc_Twins_put_games.nd rfl (Or.inl rfl) (se_dget (u1 hr) (se_fld nmOk (by decide) rfl (fun c hc => by cases Nat.eq_of_beq_eq_true hc; exact ⟨t.own_Twins.cl, t.na_Twins_sources⟩) (se_var (pv 0))) (se_var (pv 1))))
  (ss_cons (st_if (st_cmp o_is (se_var (pv 3)) se_non (nomark _)) (ss_one (st_ret (se_un o_neg se_int))) ss_nil)
  (ss_one (st_ret (se_ix (se_meth (c := 41) (n := 33) nmOk (by decide) rfl t.own_Twins.cl t.me_Twins_put_game ih_Twins_put_game (hr.mono (by omega)) (t.F_Twins_put_game.binds fun _ _ _ _ _ _ us hl => match us, hl with | [_, _, _], _ => rfl) (takes_of rfl rfl rfl rfl) (se_var (pv 0)) (sa_cons (se_var (pv 3)) (sa_cons (se_var (pv 2)) sa_nil))) (se_ix (se_var (pv 3)) se_int)))))), fn_ok (T := TT K) fin_ok t.F_Twins_put_game sc_Twins_put_game fun cdv A outer s H E hr => (ss_cons (st_set (i := 3) sc_Twins_put_game.nd rfl (Or.inl rfl) (se_new (sl_lst sa_nil)))
  (ss_cons (st_for (passes_of rfl) rfl (si_seq (se_cutA (se_var (pv 1)) so_none (so_some se_int))) (pg_name (i := 4) sc_Twins_put_game.nd rfl (Or.inl rfl)) (gok_name (vs := [4]) (by simp)) (ss_cons (st_set (i := 5) sc_Twins_put_game.nd rfl (Or.inl rfl) (se_meth (c := 41) (n := 34) nmOk (by decide) rfl t.own_Twins.cl t.me_Twins_put_games ih_Twins_put_games (hr.mono (by omega)) (t.F_Twins_put_games.binds fun _ _ _ _ _ _ us hl => match us, hl with | [_, _, _], _ => rfl) (takes_of rfl rfl rfl rfl) (se_var (pv 0)) (sa_cons (se_var (pv 4)) (sa_cons (se_var (pv 2)) sa_nil))))
  (ss_cons (st_if (st_cmp o_lt (se_var (pv 5)) se_int (nomark _)) (ss_cons (st_set (i := 5) sc_Twins_put_game.nd rfl (Or.inl rfl) (se_fld nmOk (by decide) rfl (fun c hc => by cases Nat.eq_of_beq_eq_true hc; exact ⟨t.own_Twins.cl, t.na_Twins_many_players⟩) (se_var (pv 0))))
  (ss_one (st_fldaug nmOk (by decide) rfl (fun c hc => by cases Nat.eq_of_beq_eq_true hc; exact ⟨t.own_Twins.cl, t.na_Twins_many_players⟩) (se_var (pv 0)) se_int in_add))) ss_nil)
  (ss_one (st_ex (se_app (se_var (pv 3)) (se_var (pv 5))))))))
  (ss_cons (st_ex (se_app (se_var (pv 2)) (se_tup (sa_cons (se_ix (se_var (pv 3)) se_int) (sa_cons (se_ix (se_var (pv 3)) se_int) (sa_cons (se_ix (se_var (pv 1)) se_int) sa_nil))))))
  (ss_one (st_ret (se_tup (sa_cons (se_ix (se_var (pv 3)) se_int) (sa_cons (se_ix (se_var (pv 3)) se_int) sa_nil))))))))⟩
theorem ok_Twins_put_game (t : Txt P K mg) : FnOk P w K mg base (L2.CX P w) 31 (He.ma K (He.ga K "Twins") "put_game") (fdOf K (He.ma K (He.ga K "Twins") "put_game")) ["self", "source", "games"] (spEv ⟨K, (TT K).ca, (TT K).nm, (TT K).fld, P, w, (TT K).ex⟩ c_Twins_put_game) := (okz_Twins_put_games t 30).2
theorem ok_first_unlike (t : Txt P K mg) : FnOk P w K mg base (L2.CX P w) 32 (He.ga K "first_unlike") (fdOf K (He.ga K "first_unlike")) ["one", "other", "rating"] (spEv ⟨K, (TT K).ca, (TT K).nm, (TT K).fld, P, w, (TT K).ex⟩ c_first_unlike) :=
  fn_ok (T := TT K) fin_ok t.F_first_unlike sc_first_unlike fun cdv A outer s H E hr => (ss_cons (st_ex (se_call (ok_check_rating t) (hr.mono (by decide)) rfl t.g_check_rating t.F_check_rating.kp (t.F_check_rating.binds fun _ _ _ _ _ _ us hl => match us, hl with | [_, _, _], _ => rfl) (takes_of rfl rfl rfl rfl) (sa_cons (se_var (pv 0)) (sa_cons (se_var (pv 1)) (sa_cons (se_var (pv 2)) sa_nil)))))
  (ss_cons (st_set (i := 3) sc_first_unlike.nd rfl (Or.inl rfl) (se_make (c := 41) finI_ok t.g_Twins t.mk_Twins (ok_Twins___init__ t) (hr.mono (by decide)) (t.F_Twins___init__.binds fun _ _ _ _ _ _ us hl => match us, hl with | [_, _, _, _], _ => rfl) (takes_of rfl rfl rfl rfl) (sa_cons (se_var (pv 0)) (sa_cons (se_var (pv 1)) (sa_cons (se_var (pv 2)) sa_nil)))))
  (ss_cons (st_if (st_cmp o_is (se_fld nmOk (by decide) rfl (fun c hc => by cases Nat.eq_of_beq_eq_true hc; exact ⟨t.own_Twins.cl, t.na_Twins_fault⟩) (se_var (pv 3))) se_non (nomark _)) (ss_one (st_ret se_non)) ss_nil)
  (ss_cons (st_set (i := 4) sc_first_unlike.nd rfl (Or.inl rfl) (se_meth0 (c := 41) (n := 32) nmOk (by decide) rfl t.own_Twins.cl t.me_Twins_many_games (ok_Twins_many_games t) (hr.mono (by decide)) (t.F_Twins_many_games.binds fun _ _ _ _ _ _ us hl => match us, hl with | [_], _ => rfl) (takes_of rfl rfl rfl rfl) (se_var (pv 3))))
  (ss_cons (st_if (st_cmp o_gt (se_bin o_add (se_bin o_add se_int (se_dget (u1 hr) (se_var (pv 4)) (se_ix (se_fld nmOk (by decide) rfl (fun c hc => by cases Nat.eq_of_beq_eq_true hc; exact ⟨t.own_Twins.cl, t.na_Twins_fault⟩) (se_var (pv 3))) se_int))) (se_dget (u1 hr) (se_var (pv 4)) (se_ix (se_fld nmOk (by decide) rfl (fun c hc => by cases Nat.eq_of_beq_eq_true hc; exact ⟨t.own_Twins.cl, t.na_Twins_fault⟩) (se_var (pv 3))) se_int))) (se_con t.con_MOST_GAMES) (nomark _)) (ss_one (st_raise (c := 25) rfl t.er_TooMany hr t.g_TooMany (takes_of rfl rfl rfl rfl) (se_con t.con_MOST_GAMES))) ss_nil)
  (ss_cons (st_set (i := 5) sc_first_unlike.nd rfl (Or.inl rfl) (se_new (sl_lst sa_nil)))
  (ss_cons (st_ex (se_meth (c := 41) (n := 33) nmOk (by decide) rfl t.own_Twins.cl t.me_Twins_put_game (ok_Twins_put_game t) (hr.mono (by decide)) (t.F_Twins_put_game.binds fun _ _ _ _ _ _ us hl => match us, hl with | [_, _, _], _ => rfl) (takes_of rfl rfl rfl rfl) (se_var (pv 3)) (sa_cons (se_fld nmOk (by decide) rfl (fun c hc => by cases Nat.eq_of_beq_eq_true hc; exact ⟨t.own_Twins.cl, t.na_Twins_fault⟩) (se_var (pv 3))) (sa_cons (se_var (pv 5)) sa_nil))))
  (ss_one (st_ret (se_tup (sa_cons (se_var (pv 5)) (sa_cons (se_ix (se_fld nmOk (by decide) rfl (fun c hc => by cases Nat.eq_of_beq_eq_true hc; exact ⟨t.own_Twins.cl, t.na_Twins_fault⟩) (se_var (pv 3))) se_int) sa_nil))))))))))))
theorem ok__law_refused (t : Txt P K mg) : FnG P w K mg base (L2.CX P w) 33 (He.ga K "_law_refused") (fdOf K (He.ga K "_law_refused")) ["_law_way", "_law_one", "_law_other", "_law_rating"] (spEv ⟨K, (TT K).ca, (TT K).nm, (TT K).fld, P, w, (TT K).ex⟩ c__law_refused) :=
  fnG_ok (T := TT K) fin_ok t.F__law_refused sc__law_refused fun cdv A outer s H E hr hG => (ss_cons (st_try1 (i := 4) (cv := .ref ((TT K).ca 3)) (sub := sub_BadPlace) rfl rfl rfl sc__law_refused.nd rfl rfl ⟨rfl, by decide, Or.inl t.g_BadPlace⟩ (takes_of rfl rfl rfl rfl) (fun c b h => match c, h with | 0, h => nomatch h | 1, h => nomatch h | 2, h => by cases h; exact t.exm_2_BadPlace | 3, h => by cases h; exact t.exm_3_BadPlace | 4, h => by cases h; exact t.exm_4_BadPlace | 5, h => nomatch h | 6, h => nomatch h | 7, h => nomatch h | 8, h => nomatch h | 9, h => nomatch h | 10, h => nomatch h | 11, h => nomatch h | 12, h => nomatch h | 13, h => nomatch h | 14, h => nomatch h | 15, h => nomatch h | 16, h => nomatch h | 17, h => nomatch h | 18, h => nomatch h | 19, h => nomatch h | 20, h => nomatch h | 21, h => nomatch h | 22, h => nomatch h | 23, h => nomatch h | 24, h => nomatch h | 25, h => by cases h; exact t.exm_25_BadPlace | 26, h => nomatch h | (m + 27), h => nomatch h)
 (fun W pn xe tk po => (ss_one (st_if (st_cmp (o_eq hr.units) (se_var (pv 0)) se_int (nomark _)) (ss_one (st_ex (se_call (ok_are_alike t) (hr.mono (by decide)) rfl t.g_are_alike t.F_are_alike.kp (t.F_are_alike.binds fun _ _ _ _ _ _ us hl => match us, hl with | [_, _, _], _ => rfl) tk (sa_cons (se_var (pv 1)) (sa_cons (se_var (pv 2)) (sa_cons (se_var (pv 3)) sa_nil)))))) (ss_one (st_ex (se_call (ok_first_unlike t) (hr.mono (by decide)) rfl t.g_first_unlike t.F_first_unlike.kp (t.F_first_unlike.binds fun _ _ _ _ _ _ us hl => match us, hl with | [_, _, _], _ => rfl) tk (sa_cons (se_var (pv 1)) (sa_cons (se_var (pv 2)) (sa_cons (se_var (pv 3)) sa_nil)))))))))
 (fun a oe c dx pn hc hz hff => match c, hc, hz with | 0, hc, _ => absurd hc (by decide) | 1, hc, _ => absurd hc (by decide) | 2, hc, _ => absurd hc (by decide) | 3, _, hz => (ss_one (st_ret (se_cmp (o_eq hr.units) (se_cb (g_reprD hG (by have z := u70 hr; exact z)) t.z_repr (by decide +kernel) (sa_cons (se_xf t.xf_3.1 t.no_3 rfl hz hff (se_var (pv 4))) sa_nil)) (se_cb (g_reprD hG (by have z := u70 hr; exact z)) t.z_repr (by decide +kernel) (sa_cons (se_var (pv 3)) sa_nil)) (nomark _)))) | 4, hc, _ => absurd hc (by decide) | 5, hc, _ => absurd hc (by decide) | 6, hc, _ => absurd hc (by decide) | 7, hc, _ => absurd hc (by decide) | 8, hc, _ => absurd hc (by decide) | 9, hc, _ => absurd hc (by decide) | 10, hc, _ => absurd hc (by decide) | 11, hc, _ => absurd hc (by decide) | 12, hc, _ => absurd hc (by decide) | 13, hc, _ => absurd hc (by decide) | 14, hc, _ => absurd hc (by decide) | 15, hc, _ => absurd hc (by decide) | 16, hc, _ => absurd hc (by decide) | 17, hc, _ => absurd hc (by decide) | 18, hc, _ => absurd hc (by decide) | 19, hc, _ => absurd hc (by decide) | 20, hc, _ => absurd hc (by decide) | 21, hc, _ => absurd hc (by decide) | 22, hc, _ => absurd hc (by decide) | 23, hc, _ => absurd hc (by decide) | 24, hc, _ => absurd hc (by decide) | 25, hc, _ => absurd hc (by decide) | 26, hc, _ => absurd hc (by decide) | (m + 27), hc, _ => absurd hc (fun h => nomatch h)))
  (ss_one (st_ret se_bl)))
theorem ok__law_known (t : Txt P K mg) : FnOk P w K mg base (L2.CX P w) 33 (He.ga K "_law_known") (fdOf K (He.ga K "_law_known")) [] (spEv ⟨K, (TT K).ca, (TT K).nm, (TT K).fld, P, w, (TT K).ex⟩ c__law_known) :=
  fn_ok (T := TT K) fin_ok t.F__law_known sc__law_known fun cdv A outer s H E hr => (ss_cons (st_par2 (i := 0) (j := 1) rfl sc__law_known.nd rfl rfl (by decide) rfl rfl (sa_cons (se_lst (sl_lst (sa_cons (se_tup (sa_cons se_int (sa_cons (se_tup (sa_cons se_int (sa_cons (se_un o_neg se_int) sa_nil))) (sa_cons (se_tup (sa_cons se_int (sa_cons se_int sa_nil))) (sa_cons (se_tup (sa_cons (se_un o_neg se_int) (sa_cons se_int sa_nil))) sa_nil))))) sa_nil))) (sa_cons (se_tup (sa_cons se_int (sa_cons (se_tup (sa_cons se_int (sa_cons se_int sa_nil))) (sa_cons se_non (sa_cons se_non sa_nil))))) sa_nil)) (by rfl))
  (ss_cons (st_par2 (i := 2) (j := 3) rfl sc__law_known.nd rfl rfl (by decide) rfl rfl (sa_cons (se_makeKd (c := 30) (ks := []) fin_ok t.g_Book t.mk_Book (ok_Book___init__ t) (hr.mono (by decide)) (kbn_dfl (ps := ["self", "low", "high", "table", "fresh", "times", "bonus"]) t.FD_Book___init__ 4 [] [("fresh", (.int 0)), ("times", (.int 1)), ("bonus", (.int 0))] [0, 1, 2, 3, 4, 5, 6] (by intro h; cases h) (by simp [He.Dv.v]) fun _ _ _ _ _ _ us mv ws h1 h2 h3 => match us, h1, mv, h2, ws, h3 with | [_, _, _, _], _, [_, _, _], _, [], _ => ⟨_, _, _, _, _, _, rfl, rfl, ⟨_, _, _, _, _, _, rfl, rfl, ⟨_, _, _, _, _, _, rfl, rfl, rfl⟩⟩⟩) (fun _ _ => (.cons (.int _) (.cons (.int _) (.cons (.int _) .nil)))) (takes_of rfl rfl rfl rfl) (sa_cons se_int (sa_cons se_int (sa_cons (se_var (pv 0)) sa_nil))) sk_nil) (sa_cons (se_makeKd (c := 30) (ks := []) fin_ok t.g_Book t.mk_Book (ok_Book___init__ t) (hr.mono (by decide)) (kbn_dfl (ps := ["self", "low", "high", "table", "fresh", "times", "bonus"]) t.FD_Book___init__ 4 [] [("fresh", (.int 0)), ("times", (.int 1)), ("bonus", (.int 0))] [0, 1, 2, 3, 4, 5, 6] (by intro h; cases h) (by simp [He.Dv.v]) fun _ _ _ _ _ _ us mv ws h1 h2 h3 => match us, h1, mv, h2, ws, h3 with | [_, _, _, _], _, [_, _, _], _, [], _ => ⟨_, _, _, _, _, _, rfl, rfl, ⟨_, _, _, _, _, _, rfl, rfl, ⟨_, _, _, _, _, _, rfl, rfl, rfl⟩⟩⟩) (fun _ _ => (.cons (.int _) (.cons (.int _) (.cons (.int _) .nil)))) (takes_of rfl rfl rfl rfl) (sa_cons se_int (sa_cons se_int (sa_cons (se_bin o_add (se_var (pv 0)) (se_lst (sl_lst (sa_cons (se_var (pv 1)) sa_nil)))) sa_nil))) sk_nil) sa_nil)) (by rfl))
  (ss_cons (st_if (st_bool (sw_or (st_not (st_val (se_call (ok_are_alike t) (hr.mono (by decide)) rfl t.g_are_alike t.F_are_alike.kp (t.F_are_alike.binds fun _ _ _ _ _ _ us hl => match us, hl with | [_, _, _], _ => rfl) (takes_of rfl rfl rfl rfl) (sa_cons (se_var (pv 2)) (sa_cons (se_var (pv 3)) (sa_cons se_int sa_nil)))))) (sw_oneO (st_cmp o_isNot (se_call (ok_first_unlike t) (hr.mono (by decide)) rfl t.g_first_unlike t.F_first_unlike.kp (t.F_first_unlike.binds fun _ _ _ _ _ _ us hl => match us, hl with | [_, _, _], _ => rfl) (takes_of rfl rfl rfl rfl) (sa_cons (se_var (pv 2)) (sa_cons (se_var (pv 3)) (sa_cons se_int sa_nil)))) se_non (nomark _))))) (ss_one (st_ret se_bl)) ss_nil)
  (ss_cons (st_set (i := 4) sc__law_known.nd rfl (Or.inl rfl) (se_makeKd (c := 30) (ks := []) fin_ok t.g_Book t.mk_Book (ok_Book___init__ t) (hr.mono (by decide)) (kbn_dfl (ps := ["self", "low", "high", "table", "fresh", "times", "bonus"]) t.FD_Book___init__ 4 [] [("fresh", (.int 0)), ("times", (.int 1)), ("bonus", (.int 0))] [0, 1, 2, 3, 4, 5, 6] (by intro h; cases h) (by simp [He.Dv.v]) fun _ _ _ _ _ _ us mv ws h1 h2 h3 => match us, h1, mv, h2, ws, h3 with | [_, _, _, _], _, [_, _, _], _, [], _ => ⟨_, _, _, _, _, _, rfl, rfl, ⟨_, _, _, _, _, _, rfl, rfl, ⟨_, _, _, _, _, _, rfl, rfl, rfl⟩⟩⟩) (fun _ _ => (.cons (.int _) (.cons (.int _) (.cons (.int _) .nil)))) (takes_of rfl rfl rfl rfl) (sa_cons se_int (sa_cons se_int (sa_cons (se_var (pv 0)) sa_nil))) sk_nil))
  (ss_cons (st_if (st_bool (sw_or (st_val (se_call (ok_are_alike t) (hr.mono (by decide)) rfl t.g_are_alike t.F_are_alike.kp (t.F_are_alike.binds fun _ _ _ _ _ _ us hl => match us, hl with | [_, _, _], _ => rfl) (takes_of rfl rfl rfl rfl) (sa_cons (se_var (pv 2)) (sa_cons (se_var (pv 4)) (sa_cons se_int sa_nil))))) (sw_or (st_val (se_call (ok_are_alike t) (hr.mono (by decide)) rfl t.g_are_alike t.F_are_alike.kp (t.F_are_alike.binds fun _ _ _ _ _ _ us hl => match us, hl with | [_, _, _], _ => rfl) (takes_of rfl rfl rfl rfl) (sa_cons (se_var (pv 2)) (sa_cons (se_var (pv 4)) (sa_cons se_int sa_nil))))) (sw_oneO (st_cmp (o_ne hr.units) (se_ix (se_call (ok_first_unlike t) (hr.mono (by decide)) rfl t.g_first_unlike t.F_first_unlike.kp (t.F_first_unlike.binds fun _ _ _ _ _ _ us hl => match us, hl with | [_, _, _], _ => rfl) (takes_of rfl rfl rfl rfl) (sa_cons (se_var (pv 2)) (sa_cons (se_var (pv 4)) (sa_cons se_int sa_nil)))) se_int) se_str (nomark _)))))) (ss_one (st_ret se_bl)) ss_nil)
  (ss_cons (st_set (i := 5) sc__law_known.nd rfl (Or.inl rfl) (se_makeKd (c := 30) (ks := []) fin_ok t.g_Book t.mk_Book (ok_Book___init__ t) (hr.mono (by decide)) (kbn_dfl (ps := ["self", "low", "high", "table", "fresh", "times", "bonus"]) t.FD_Book___init__ 4 [] [("fresh", (.int 0)), ("times", (.int 1)), ("bonus", (.int 0))] [0, 1, 2, 3, 4, 5, 6] (by intro h; cases h) (by simp [He.Dv.v]) fun _ _ _ _ _ _ us mv ws h1 h2 h3 => match us, h1, mv, h2, ws, h3 with | [_, _, _, _], _, [_, _, _], _, [], _ => ⟨_, _, _, _, _, _, rfl, rfl, ⟨_, _, _, _, _, _, rfl, rfl, ⟨_, _, _, _, _, _, rfl, rfl, rfl⟩⟩⟩) (fun _ _ => (.cons (.int _) (.cons (.int _) (.cons (.int _) .nil)))) (takes_of rfl rfl rfl rfl) (sa_cons se_int (sa_cons se_int (sa_cons (se_lst (sl_lst (sa_cons (se_tup (sa_cons se_int (sa_cons (se_tup (sa_cons se_int (sa_cons (se_un o_neg se_int) sa_nil))) (sa_cons se_non (sa_cons (se_tup (sa_cons (se_un o_neg se_int) (sa_cons se_int sa_nil))) sa_nil))))) sa_nil))) sa_nil))) sk_nil))
  (ss_cons (st_set (i := 6) sc__law_known.nd rfl (Or.inl rfl) (se_call (ok_first_unlike t) (hr.mono (by decide)) rfl t.g_first_unlike t.F_first_unlike.kp (t.F_first_unlike.binds fun _ _ _ _ _ _ us hl => match us, hl with | [_, _, _], _ => rfl) (takes_of rfl rfl rfl rfl) (sa_cons (se_var (pv 2)) (sa_cons (se_var (pv 5)) (sa_cons se_int sa_nil)))))
  (ss_cons (st_if (st_bool (sw_or (st_cmp (o_ne hr.units) (se_ix (se_var (pv 6)) se_int) se_str (nomark _)) (sw_or (st_cmp (o_ne hr.units) (se_ix (se_ix (se_ix (se_var (pv 6)) se_int) (se_un o_neg se_int)) se_int) se_str (nomark _)) (sw_oneO (st_val (se_call (ok_are_alike t) (hr.mono (by decide)) rfl t.g_are_alike t.F_are_alike.kp (t.F_are_alike.binds fun _ _ _ _ _ _ us hl => match us, hl with | [_, _, _], _ => rfl) (takes_of rfl rfl rfl rfl) (sa_cons (se_var (pv 2)) (sa_cons (se_var (pv 5)) (sa_cons se_int sa_nil))))))))) (ss_one (st_ret se_bl)) ss_nil)
  (ss_cons (st_set (i := 7) sc__law_known.nd rfl (Or.inl rfl) (se_makeKd (c := 30) (ks := ["bonus"]) fin_ok t.g_Book t.mk_Book (ok_Book___init__ t) (hr.mono (by decide)) (kbn_dfl (ps := ["self", "low", "high", "table", "fresh", "times", "bonus"]) t.FD_Book___init__ 4 ["bonus"] [("fresh", (.int 0)), ("times", (.int 1))] [0, 1, 2, 3, 5, 6, 4] (by intro h; cases h) (by simp [He.Dv.v]) fun _ _ _ _ _ _ us mv ws h1 h2 h3 => match us, h1, mv, h2, ws, h3 with | [_, _, _, _], _, [_, _], _, [_], _ => ⟨_, _, _, _, _, _, rfl, rfl, ⟨_, _, _, _, _, _, rfl, rfl, rfl⟩⟩) (fun _ _ => (.cons (.int _) (.cons (.int _) .nil))) (takes_of rfl rfl rfl rfl) (sa_cons se_int (sa_cons se_int (sa_cons (se_lst (sl_lst (sa_cons (se_tup (sa_cons se_int (sa_cons (se_tup (sa_cons se_int (sa_cons se_int sa_nil))) (sa_cons (se_tup (sa_cons se_int (sa_cons se_int sa_nil))) (sa_cons (se_tup (sa_cons se_int (sa_cons se_int sa_nil))) sa_nil))))) sa_nil))) sa_nil))) (sk_cons se_int sk_nil)))
  (ss_one (st_ret (se_cmp o_is (se_call (ok_are_alike t) (hr.mono (by decide)) rfl t.g_are_alike t.F_are_alike.kp (t.F_are_alike.binds fun _ _ _ _ _ _ us hl => match us, hl with | [_, _, _], _ => rfl) (takes_of rfl rfl rfl rfl) (sa_cons (se_makeKd (c := 30) (ks := []) fin_ok t.g_Book t.mk_Book (ok_Book___init__ t) (hr.mono (by decide)) (kbn_dfl (ps := ["self", "low", "high", "table", "fresh", "times", "bonus"]) t.FD_Book___init__ 4 [] [("fresh", (.int 0)), ("times", (.int 1)), ("bonus", (.int 0))] [0, 1, 2, 3, 4, 5, 6] (by intro h; cases h) (by simp [He.Dv.v]) fun _ _ _ _ _ _ us mv ws h1 h2 h3 => match us, h1, mv, h2, ws, h3 with | [_, _, _, _], _, [_, _, _], _, [], _ => ⟨_, _, _, _, _, _, rfl, rfl, ⟨_, _, _, _, _, _, rfl, rfl, ⟨_, _, _, _, _, _, rfl, rfl, rfl⟩⟩⟩) (fun _ _ => (.cons (.int _) (.cons (.int _) (.cons (.int _) .nil)))) (takes_of rfl rfl rfl rfl) (sa_cons se_int (sa_cons se_int (sa_cons (se_lst (sl_lst (sa_cons (se_tup (sa_cons se_int (sa_cons (se_tup (sa_cons se_int (sa_cons se_int sa_nil))) (sa_cons (se_tup (sa_cons se_int (sa_cons se_int sa_nil))) (sa_cons (se_tup (sa_cons se_int (sa_cons se_int sa_nil))) sa_nil))))) sa_nil))) sa_nil))) sk_nil) (sa_cons (se_var (pv 7)) (sa_cons se_int sa_nil)))) se_bl (nomark _)))))))))))))
theorem ok__law_told_games (t : Txt P K mg) : FnOk P w K mg base (L2.CX P w) 33 (He.ga K "_law_told_games") (fdOf K (He.ga K "_law_told_games")) ["_law_one", "_law_other"] (spEv ⟨K, (TT K).ca, (TT K).nm, (TT K).fld, P, w, (TT K).ex⟩ c__law_told_games) :=
  fn_ok (T := TT K) fin_ok t.F__law_told_games sc__law_told_games fun cdv A outer s H E hr => (ss_one (st_try1 (i := 2) (cv := .ref ((TT K).ca 25)) (sub := sub_TooMany) rfl rfl rfl sc__law_told_games.nd rfl rfl ⟨rfl, by decide, Or.inl t.g_TooMany⟩ (takes_of rfl rfl rfl rfl) (fun c b h => match c, h with | 0, h => nomatch h | 1, h => nomatch h | 2, h => by cases h; exact t.exm_2_TooMany | 3, h => by cases h; exact t.exm_3_TooMany | 4, h => by cases h; exact t.exm_4_TooMany | 5, h => nomatch h | 6, h => nomatch h | 7, h => nomatch h | 8, h => nomatch h | 9, h => nomatch h | 10, h => nomatch h | 11, h => nomatch h | 12, h => nomatch h | 13, h => nomatch h | 14, h => nomatch h | 15, h => nomatch h | 16, h => nomatch h | 17, h => nomatch h | 18, h => nomatch h | 19, h => nomatch h | 20, h => nomatch h | 21, h => nomatch h | 22, h => nomatch h | 23, h => nomatch h | 24, h => nomatch h | 25, h => by cases h; exact t.exm_25_TooMany | 26, h => nomatch h | (m + 27), h => nomatch h)
 (fun W pn xe tk po => (ss_one (st_ret (se_call (ok_first_unlike t) (hr.mono (by decide)) rfl t.g_first_unlike t.F_first_unlike.kp (t.F_first_unlike.binds fun _ _ _ _ _ _ us hl => match us, hl with | [_, _, _], _ => rfl) tk (sa_cons (se_var (pv 0)) (sa_cons (se_var (pv 1)) (sa_cons se_int sa_nil)))))))
 (fun a oe c dx pn hc hz hff => match c, hc, hz with | 0, hc, _ => absurd hc (by decide) | 1, hc, _ => absurd hc (by decide) | 2, hc, _ => absurd hc (by decide) | 3, hc, _ => absurd hc (by decide) | 4, hc, _ => absurd hc (by decide) | 5, hc, _ => absurd hc (by decide) | 6, hc, _ => absurd hc (by decide) | 7, hc, _ => absurd hc (by decide) | 8, hc, _ => absurd hc (by decide) | 9, hc, _ => absurd hc (by decide) | 10, hc, _ => absurd hc (by decide) | 11, hc, _ => absurd hc (by decide) | 12, hc, _ => absurd hc (by decide) | 13, hc, _ => absurd hc (by decide) | 14, hc, _ => absurd hc (by decide) | 15, hc, _ => absurd hc (by decide) | 16, hc, _ => absurd hc (by decide) | 17, hc, _ => absurd hc (by decide) | 18, hc, _ => absurd hc (by decide) | 19, hc, _ => absurd hc (by decide) | 20, hc, _ => absurd hc (by decide) | 21, hc, _ => absurd hc (by decide) | 22, hc, _ => absurd hc (by decide) | 23, hc, _ => absurd hc (by decide) | 24, hc, _ => absurd hc (by decide) | 25, _, hz => (ss_one (st_ret (se_xf t.xf_25.1 t.no_25 rfl hz hff (se_var (pv 2))))) | 26, hc, _ => absurd hc (by decide) | (m + 27), hc, _ => absurd hc (fun h => nomatch h))))
theorem ok__law_far_right (t : Txt P K mg) : FnOk P w K mg base (L2.CX P w) 34 (He.ga K "_law_far_right") (fdOf K (He.ga K "_law_far_right")) [] (spEv ⟨K, (TT K).ca, (TT K).nm, (TT K).fld, P, w, (TT K).ex⟩ c__law_far_right) :=
  fn_ok (T := TT K) fin_ok t.F__law_far_right sc__law_far_right fun cdv A outer s H E hr => (ss_cons (st_set (i := 0) sc__law_far_right.nd rfl (Or.inl rfl) (se_lst (sl_lst (sa_cons (se_tup (sa_cons se_int (sa_cons (se_tup (sa_cons se_int (sa_cons se_int sa_nil))) (sa_cons se_non (sa_cons se_non sa_nil))))) (sa_cons (se_tup (sa_cons se_int (sa_cons se_non (sa_cons se_non (sa_cons se_non sa_nil))))) sa_nil)))))
  (ss_cons (st_par2 (i := 1) (j := 2) rfl sc__law_far_right.nd rfl rfl (by decide) rfl rfl (sa_cons (se_makeKd (c := 30) (ks := []) fin_ok t.g_Book t.mk_Book (ok_Book___init__ t) (hr.mono (by decide)) (kbn_dfl (ps := ["self", "low", "high", "table", "fresh", "times", "bonus"]) t.FD_Book___init__ 4 [] [("fresh", (.int 0)), ("times", (.int 1)), ("bonus", (.int 0))] [0, 1, 2, 3, 4, 5, 6] (by intro h; cases h) (by simp [He.Dv.v]) fun _ _ _ _ _ _ us mv ws h1 h2 h3 => match us, h1, mv, h2, ws, h3 with | [_, _, _, _], _, [_, _, _], _, [], _ => ⟨_, _, _, _, _, _, rfl, rfl, ⟨_, _, _, _, _, _, rfl, rfl, ⟨_, _, _, _, _, _, rfl, rfl, rfl⟩⟩⟩) (fun _ _ => (.cons (.int _) (.cons (.int _) (.cons (.int _) .nil)))) (takes_of rfl rfl rfl rfl) (sa_cons se_int (sa_cons se_int (sa_cons (se_var (pv 0)) sa_nil))) sk_nil) (sa_cons (se_makeKd (c := 30) (ks := []) fin_ok t.g_Book t.mk_Book (ok_Book___init__ t) (hr.mono (by decide)) (kbn_dfl (ps := ["self", "low", "high", "table", "fresh", "times", "bonus"]) t.FD_Book___init__ 4 [] [("fresh", (.int 0)), ("times", (.int 1)), ("bonus", (.int 0))] [0, 1, 2, 3, 4, 5, 6] (by intro h; cases h) (by simp [He.Dv.v]) fun _ _ _ _ _ _ us mv ws h1 h2 h3 => match us, h1, mv, h2, ws, h3 with | [_, _, _, _], _, [_, _, _], _, [], _ => ⟨_, _, _, _, _, _, rfl, rfl, ⟨_, _, _, _, _, _, rfl, rfl, ⟨_, _, _, _, _, _, rfl, rfl, rfl⟩⟩⟩) (fun _ _ => (.cons (.int _) (.cons (.int _) (.cons (.int _) .nil)))) (takes_of rfl rfl rfl rfl) (sa_cons se_int (sa_cons se_int (sa_cons (se_var (pv 0)) sa_nil))) sk_nil) sa_nil)) (by rfl))
  (ss_cons (st_if (st_cmp o_isNot (se_call (ok_are_alike t) (hr.mono (by decide)) rfl t.g_are_alike t.F_are_alike.kp (t.F_are_alike.binds fun _ _ _ _ _ _ us hl => match us, hl with | [_, _, _], _ => rfl) (takes_of rfl rfl rfl rfl) (sa_cons (se_var (pv 1)) (sa_cons (se_var (pv 2)) (sa_cons se_int sa_nil)))) se_bl (nomark _)) (ss_one (st_ret se_bl)) ss_nil)
  (ss_cons (st_set (i := 3) sc__law_far_right.nd rfl (Or.inl rfl) (se_call (ok__law_told_games t) (hr.mono (by decide)) rfl t.g__law_told_games t.F__law_told_games.kp (t.F__law_told_games.binds fun _ _ _ _ _ _ us hl => match us, hl with | [_, _], _ => rfl) (takes_of rfl rfl rfl rfl) (sa_cons (se_var (pv 1)) (sa_cons (se_var (pv 2)) sa_nil))))
  (ss_cons (st_if (st_bool (sw_and (st_cmp (o_ne hr.units) (se_var (pv 3)) se_int (nomark _)) (sw_one (st_bool (sw_or (st_val (se_isi (b := .int) rfl t.z_isinstance (se_var (pv 3)) (ty_of t.z_int (by decide +kernel)))) (sw_oneO (st_not (st_val (se_call (ok__law_shows t) (hr.mono (by decide)) rfl t.g__law_shows t.F__law_shows.kp (t.F__law_shows.binds fun _ _ _ _ _ _ us hl => match us, hl with | [_, _], _ => rfl) (takes_of rfl rfl rfl rfl) (sa_cons (se_var (pv 3)) (sa_cons se_int sa_nil))))))))))) (ss_one (st_ret se_bl)) ss_nil)
  (ss_one (st_ret (se_call (ok__law_shows t) (hr.mono (by decide)) rfl t.g__law_shows t.F__law_shows.kp (t.F__law_shows.binds fun _ _ _ _ _ _ us hl => match us, hl with | [_, _], _ => rfl) (takes_of rfl rfl rfl rfl) (sa_cons (se_call (ok_first_unlike t) (hr.mono (by decide)) rfl t.g_first_unlike t.F_first_unlike.kp (t.F_first_unlike.binds fun _ _ _ _ _ _ us hl => match us, hl with | [_, _, _], _ => rfl) (takes_of rfl rfl rfl rfl) (sa_cons (se_makeKd (c := 30) (ks := []) fin_ok t.g_Book t.mk_Book (ok_Book___init__ t) (hr.mono (by decide)) (kbn_dfl (ps := ["self", "low", "high", "table", "fresh", "times", "bonus"]) t.FD_Book___init__ 4 [] [("fresh", (.int 0)), ("times", (.int 1)), ("bonus", (.int 0))] [0, 1, 2, 3, 4, 5, 6] (by intro h; cases h) (by simp [He.Dv.v]) fun _ _ _ _ _ _ us mv ws h1 h2 h3 => match us, h1, mv, h2, ws, h3 with | [_, _, _, _], _, [_, _, _], _, [], _ => ⟨_, _, _, _, _, _, rfl, rfl, ⟨_, _, _, _, _, _, rfl, rfl, ⟨_, _, _, _, _, _, rfl, rfl, rfl⟩⟩⟩) (fun _ _ => (.cons (.int _) (.cons (.int _) (.cons (.int _) .nil)))) (takes_of rfl rfl rfl rfl) (sa_cons se_int (sa_cons se_int (sa_cons (se_var (pv 0)) sa_nil))) sk_nil) (sa_cons (se_makeKd (c := 30) (ks := []) fin_ok t.g_Book t.mk_Book (ok_Book___init__ t) (hr.mono (by decide)) (kbn_dfl (ps := ["self", "low", "high", "table", "fresh", "times", "bonus"]) t.FD_Book___init__ 4 [] [("fresh", (.int 0)), ("times", (.int 1)), ("bonus", (.int 0))] [0, 1, 2, 3, 4, 5, 6] (by intro h; cases h) (by simp [He.Dv.v]) fun _ _ _ _ _ _ us mv ws h1 h2 h3 => match us, h1, mv, h2, ws, h3 with | [_, _, _, _], _, [_, _, _], _, [], _ => ⟨_, _, _, _, _, _, rfl, rfl, ⟨_, _, _, _, _, _, rfl, rfl, ⟨_, _, _, _, _, _, rfl, rfl, rfl⟩⟩⟩) (fun _ _ => (.cons (.int _) (.cons (.int _) (.cons (.int _) .nil)))) (takes_of rfl rfl rfl rfl) (sa_cons se_int (sa_cons se_int (sa_cons (se_var (pv 0)) sa_nil))) sk_nil) (sa_cons se_int sa_nil)))) (sa_cons se_int sa_nil))))))))))
theorem ok_law (t : Txt P K mg) : FnG P w K mg base (L2.CX P w) 35 (He.ga K "law") (fdOf K (He.ga K "law")) ["_law_script"] (spEv ⟨K, (TT K).ca, (TT K).nm, (TT K).fld, P, w, (TT K).ex⟩ c_law) :=
  fnG_ok (T := TT K) fin_ok t.F_law sc_law fun cdv A outer s H E hr hG => (ss_cons (st_if (st_not (st_val (se_call0 (ok__law_far_right t) (hr.mono (by decide)) rfl t.g__law_far_right t.F__law_far_right.kp (t.F__law_far_right.binds fun _ _ _ _ _ _ us hl => match us, hl with | [], _ => rfl) (takes_of rfl rfl rfl rfl)))) (ss_one (st_ret se_bl)) ss_nil)
  (ss_cons (st_forK [1, 2, 3, 4, 5, 6, 7, 8] (passes_of rfl) rfl (si_range1 rfl t.z_range (sa_cons (se_cb (g_max2 rfl) t.z_max (by decide +kernel) (sa_cons se_int (sa_cons (se_cb (g_min2 rfl) t.z_min (by decide +kernel) (sa_cons (se_it g_len t.z_len (by decide +kernel) (se_var (pv 0))) (sa_cons se_int sa_nil))) sa_nil))) sa_nil)) (pg_name (i := 1) sc_law.nd rfl (Or.inl rfl)) (gok_name (vs := [1]) (by simp)) (ss_cons (st_set (i := 2) sc_law.nd rfl (Or.inl rfl) (se_call (ok__law_pool t) (hr.mono (by decide)) rfl t.g__law_pool t.F__law_pool.kp (t.F__law_pool.binds fun _ _ _ _ _ _ us hl => match us, hl with | [_, _], _ => rfl) (takes_of rfl rfl rfl rfl) (sa_cons (se_var (pv 0)) (sa_cons (se_var (pv 1)) sa_nil))))
  (ss_cons (st_set (i := 3) sc_law.nd rfl (Or.inl rfl) (se_bin o_add se_int (se_call (ok__law_draw t) (hr.mono (by decide)) rfl t.g__law_draw t.F__law_draw.kp (t.F__law_draw.binds fun _ _ _ _ _ _ us hl => match us, hl with | [_, _], _ => rfl) (takes_of rfl rfl rfl rfl) (sa_cons (se_var (pv 2)) (sa_cons se_int sa_nil)))))
  (ss_cons (st_set (i := 4) sc_law.nd rfl (Or.inl rfl) (se_lst (sl_lst (sa_cons (se_tup (sa_cons se_int (sa_cons (se_tup (sa_cons se_int (sa_cons (se_un o_neg se_int) sa_nil))) (sa_cons (se_tup (sa_cons se_int (sa_cons se_int sa_nil))) (sa_cons (se_tup (sa_cons (se_un o_neg se_int) (sa_cons se_int sa_nil))) sa_nil))))) sa_nil))))
  (ss_cons (st_par2 (i := 5) (j := 6) rfl sc_law.nd rfl rfl (by decide) rfl rfl (sa_cons (se_makeKd (c := 30) (ks := []) fin_ok t.g_Book t.mk_Book (ok_Book___init__ t) (hr.mono (by decide)) (kbn_dfl (ps := ["self", "low", "high", "table", "fresh", "times", "bonus"]) t.FD_Book___init__ 4 [] [("fresh", (.int 0)), ("times", (.int 1)), ("bonus", (.int 0))] [0, 1, 2, 3, 4, 5, 6] (by intro h; cases h) (by simp [He.Dv.v]) fun _ _ _ _ _ _ us mv ws h1 h2 h3 => match us, h1, mv, h2, ws, h3 with | [_, _, _, _], _, [_, _, _], _, [], _ => ⟨_, _, _, _, _, _, rfl, rfl, ⟨_, _, _, _, _, _, rfl, rfl, ⟨_, _, _, _, _, _, rfl, rfl, rfl⟩⟩⟩) (fun _ _ => (.cons (.int _) (.cons (.int _) (.cons (.int _) .nil)))) (takes_of rfl rfl rfl rfl) (sa_cons (se_var (pv 3)) (sa_cons (se_bin o_add (se_var (pv 3)) se_int) (sa_cons (se_var (pv 4)) sa_nil))) sk_nil) (sa_cons (se_makeKd (c := 30) (ks := []) fin_ok t.g_Book t.mk_Book (ok_Book___init__ t) (hr.mono (by decide)) (kbn_dfl (ps := ["self", "low", "high", "table", "fresh", "times", "bonus"]) t.FD_Book___init__ 4 [] [("fresh", (.int 0)), ("times", (.int 1)), ("bonus", (.int 0))] [0, 1, 2, 3, 4, 5, 6] (by intro h; cases h) (by simp [He.Dv.v]) fun _ _ _ _ _ _ us mv ws h1 h2 h3 => match us, h1, mv, h2, ws, h3 with | [_, _, _, _], _, [_, _, _], _, [], _ => ⟨_, _, _, _, _, _, rfl, rfl, ⟨_, _, _, _, _, _, rfl, rfl, ⟨_, _, _, _, _, _, rfl, rfl, rfl⟩⟩⟩) (fun _ _ => (.cons (.int _) (.cons (.int _) (.cons (.int _) .nil)))) (takes_of rfl rfl rfl rfl) (sa_cons (se_bin o_add (se_var (pv 3)) se_int) (sa_cons (se_bin o_add (se_var (pv 3)) se_int) (sa_cons (se_var (pv 4)) sa_nil))) sk_nil) sa_nil)) (by rfl))
  (ss_cons (st_forK [7, 8] (passes_of rfl) rfl (si_range1 rfl t.z_range (sa_cons se_int sa_nil)) (pg_name (i := 7) sc_law.nd rfl (Or.inl rfl)) (gok_name (vs := [7]) (by simp)) (ss_cons (st_forK [8] (passes_of rfl) rfl (si_tmp (sl_lst (sa_cons se_non (sa_cons (se_bin o_sub (se_var (pv 3)) se_int) (sa_cons (se_var (pv 3)) (sa_cons (se_bin o_add (se_var (pv 3)) se_int) (sa_cons (se_bin o_add (se_var (pv 3)) se_int) (sa_cons se_bl (sa_cons (se_ct g_str t.z_str (by decide +kernel) (sa_cons (se_bin o_add (se_var (pv 3)) se_int) sa_nil)) sa_nil))))))))) (pg_name (i := 8) sc_law.nd rfl (Or.inl rfl)) (gok_name (vs := [8]) (by simp)) (ss_one (st_if (st_bool (sw_or (st_not (st_val (se_callG (ok__law_refused t) (hr.mono (by decide)) hG rfl t.g__law_refused t.F__law_refused.kp (t.F__law_refused.binds fun _ _ _ _ _ _ us hl => match us, hl with | [_, _, _, _], _ => rfl) (takes_of rfl rfl rfl rfl) (sa_cons (se_var (pv 7)) (sa_cons (se_var (pv 5)) (sa_cons (se_var (pv 6)) (sa_cons (se_var (pv 8)) sa_nil))))))) (sw_oneO (st_not (st_val (se_callG (ok__law_refused t) (hr.mono (by decide)) hG rfl t.g__law_refused t.F__law_refused.kp (t.F__law_refused.binds fun _ _ _ _ _ _ us hl => match us, hl with | [_, _, _, _], _ => rfl) (takes_of rfl rfl rfl rfl) (sa_cons (se_var (pv 7)) (sa_cons (se_var (pv 6)) (sa_cons (se_var (pv 5)) (sa_cons (se_var (pv 8)) sa_nil)))))))))) (ss_one (st_ret se_bl)) ss_nil)))
  (ss_one (st_if (st_bool (sw_or (st_val (se_callG (ok__law_refused t) (hr.mono (by decide)) hG rfl t.g__law_refused t.F__law_refused.kp (t.F__law_refused.binds fun _ _ _ _ _ _ us hl => match us, hl with | [_, _, _, _], _ => rfl) (takes_of rfl rfl rfl rfl) (sa_cons (se_var (pv 7)) (sa_cons (se_var (pv 5)) (sa_cons (se_var (pv 6)) (sa_cons (se_bin o_add (se_var (pv 3)) se_int) sa_nil)))))) (sw_oneO (st_val (se_callG (ok__law_refused t) (hr.mono (by decide)) hG rfl t.g__law_refused t.F__law_refused.kp (t.F__law_refused.binds fun _ _ _ _ _ _ us hl => match us, hl with | [_, _, _, _], _ => rfl) (takes_of rfl rfl rfl rfl) (sa_cons (se_var (pv 7)) (sa_cons (se_var (pv 5)) (sa_cons (se_var (pv 6)) (sa_cons (se_bin o_add (se_var (pv 3)) se_int) sa_nil))))))))) (ss_one (st_ret se_bl)) ss_nil))))
  (ss_one (st_if (st_not (st_val (se_call0 (ok__law_known t) (hr.mono (by decide)) rfl t.g__law_known t.F__law_known.kp (t.F__law_known.binds fun _ _ _ _ _ _ us hl => match us, hl with | [], _ => rfl) (takes_of rfl rfl rfl rfl)))) (ss_one (st_ret se_bl)) ss_nil))))))))
  (ss_one (st_ret se_bl))))
end
end K81
end
section
set_option maxRecDepth 100000
set_option maxHeartbeats 0
namespace K81
open PySem L2 Lad
theorem txt {K : PySem.W.Frag} {h : Heap} {mg : Str → Option Value} (X : K.In h) (G : h.Ns mainGlobals mg) (c : SaysL fa fn er K) : Txt P0 K mg where
  z_all := He.free_ok X G (c.fact 0 (f := (He.Fa.free "all").ok) rfl)
  z_bool := He.free_ok X G (c.fact 1 (f := (He.Fa.free "bool").ok) rfl)
  z_int := He.free_ok X G (c.fact 2 (f := (He.Fa.free "int").ok) rfl)
  z_isinstance := He.free_ok X G (c.fact 3 (f := (He.Fa.free "isinstance").ok) rfl)
  z_len := He.free_ok X G (c.fact 4 (f := (He.Fa.free "len").ok) rfl)
  z_list := He.free_ok X G (c.fact 5 (f := (He.Fa.free "list").ok) rfl)
  z_max := He.free_ok X G (c.fact 6 (f := (He.Fa.free "max").ok) rfl)
  z_min := He.free_ok X G (c.fact 7 (f := (He.Fa.free "min").ok) rfl)
  z_range := He.free_ok X G (c.fact 8 (f := (He.Fa.free "range").ok) rfl)
  z_repr := He.free_ok X G (c.fact 9 (f := (He.Fa.free "repr").ok) rfl)
  z_str := He.free_ok X G (c.fact 10 (f := (He.Fa.free "str").ok) rfl)
  z_tuple := He.free_ok X G (c.fact 11 (f := (He.Fa.free "tuple").ok) rfl)
  z_zip := He.free_ok X G (c.fact 12 (f := (He.Fa.free "zip").ok) rfl)
  F_is_whole := fun_of (d := d_is_whole) rfl (c.fn_ 0 rfl).1 (c.fn_ 0 rfl).2
  g_is_whole := He.glo_ok X G (c.fact 13 (f := (He.Fa.glo "is_whole").ok) rfl)
  F_row_at := fun_of (d := d_row_at) rfl (c.fn_ 1 rfl).1 (c.fn_ 1 rfl).2
  g_row_at := He.glo_ok X G (c.fact 14 (f := (He.Fa.glo "row_at").ok) rfl)
  F_is_result := fun_of (d := d_is_result) rfl (c.fn_ 2 rfl).1 (c.fn_ 2 rfl).2
  g_is_result := He.glo_ok X G (c.fact 15 (f := (He.Fa.glo "is_result").ok) rfl)
  F__law_pool := fun_of (d := d__law_pool) rfl (c.fn_ 3 rfl).1 (c.fn_ 3 rfl).2
  g__law_pool := He.glo_ok X G (c.fact 16 (f := (He.Fa.glo "_law_pool").ok) rfl)
  F__law_draw := fun_of (d := d__law_draw) rfl (c.fn_ 4 rfl).1 (c.fn_ 4 rfl).2
  g__law_draw := He.glo_ok X G (c.fact 17 (f := (He.Fa.glo "_law_draw").ok) rfl)
  F__law_shows := fun_of (d := d__law_shows) rfl (c.fn_ 5 rfl).1 (c.fn_ 5 rfl).2
  g__law_shows := He.glo_ok X G (c.fact 18 (f := (He.Fa.glo "_law_shows").ok) rfl)
  F_Book_last_phase := fun_of (d := d_Book_last_phase) rfl (c.fn_ 6 rfl).1 (c.fn_ 6 rfl).2
  F_Book_moved := fun_of (d := d_Book_moved) rfl (c.fn_ 7 rfl).1 (c.fn_ 7 rfl).2
  F_Twins_many_games := fun_of (d := d_Twins_many_games) rfl (c.fn_ 8 rfl).1 (c.fn_ 8 rfl).2
  F_is_integer := fun_of (d := d_is_integer) rfl (c.fn_ 9 rfl).1 (c.fn_ 9 rfl).2
  g_is_integer := He.glo_ok X G (c.fact 19 (f := (He.Fa.glo "is_integer").ok) rfl)
  F_Book_places := fun_of (d := d_Book_places) rfl (c.fn_ 10 rfl).1 (c.fn_ 10 rfl).2
  F_is_entry := fun_of (d := d_is_entry) rfl (c.fn_ 11 rfl).1 (c.fn_ 11 rfl).2
  g_is_entry := He.glo_ok X G (c.fact 20 (f := (He.Fa.glo "is_entry").ok) rfl)
  F_check_rating := fun_of (d := d_check_rating) rfl (c.fn_ 12 rfl).1 (c.fn_ 12 rfl).2
  g_check_rating := He.glo_ok X G (c.fact 21 (f := (He.Fa.glo "check_rating").ok) rfl)
  F_Book___len__ := fun_of (d := d_Book___len__) rfl (c.fn_ 13 rfl).1 (c.fn_ 13 rfl).2
  F_Book___contains__ := fun_of (d := d_Book___contains__) rfl (c.fn_ 14 rfl).1 (c.fn_ 14 rfl).2
  F_Book_start := fun_of (d := d_Book_start) rfl (c.fn_ 15 rfl).1 (c.fn_ 15 rfl).2
  F_is_table_row := fun_of (d := d_is_table_row) rfl (c.fn_ 16 rfl).1 (c.fn_ 16 rfl).2
  g_is_table_row := He.glo_ok X G (c.fact 22 (f := (He.Fa.glo "is_table_row").ok) rfl)
  F_Book_game := fun_of (d := d_Book_game) rfl (c.fn_ 17 rfl).1 (c.fn_ 17 rfl).2
  F_is_table := fun_of (d := d_is_table) rfl (c.fn_ 18 rfl).1 (c.fn_ 18 rfl).2
  g_is_table := He.glo_ok X G (c.fact 23 (f := (He.Fa.glo "is_table").ok) rfl)
  F_Twins_take := fun_of (d := d_Twins_take) rfl (c.fn_ 19 rfl).1 (c.fn_ 19 rfl).2
  FD_Book___init__ := funD_of (d := d_Book___init__) rfl (c.fn_ 20 rfl).1 (c.fn_ 20 rfl).2
  F_Book___init__ := fun_ofD (funD_of (d := d_Book___init__) rfl (c.fn_ 20 rfl).1 (c.fn_ 20 rfl).2)
  F_Twins_look_at := fun_of (d := d_Twins_look_at) rfl (c.fn_ 21 rfl).1 (c.fn_ 21 rfl).2
  F_Twins___init__ := fun_of (d := d_Twins___init__) rfl (c.fn_ 22 rfl).1 (c.fn_ 22 rfl).2
  F_are_alike := fun_of (d := d_are_alike) rfl (c.fn_ 23 rfl).1 (c.fn_ 23 rfl).2
  g_are_alike := He.glo_ok X G (c.fact 24 (f := (He.Fa.glo "are_alike").ok) rfl)
  F_Twins_put_games := fun_of (d := d_Twins_put_games) rfl (c.fn_ 24 rfl).1 (c.fn_ 24 rfl).2
  F_Twins_put_game := fun_of (d := d_Twins_put_game) rfl (c.fn_ 25 rfl).1 (c.fn_ 25 rfl).2
  F_first_unlike := fun_of (d := d_first_unlike) rfl (c.fn_ 26 rfl).1 (c.fn_ 26 rfl).2
  g_first_unlike := He.glo_ok X G (c.fact 25 (f := (He.Fa.glo "first_unlike").ok) rfl)
  F__law_refused := fun_of (d := d__law_refused) rfl (c.fn_ 27 rfl).1 (c.fn_ 27 rfl).2
  g__law_refused := He.glo_ok X G (c.fact 26 (f := (He.Fa.glo "_law_refused").ok) rfl)
  F__law_known := fun_of (d := d__law_known) rfl (c.fn_ 28 rfl).1 (c.fn_ 28 rfl).2
  g__law_known := He.glo_ok X G (c.fact 27 (f := (He.Fa.glo "_law_known").ok) rfl)
  F__law_told_games := fun_of (d := d__law_told_games) rfl (c.fn_ 29 rfl).1 (c.fn_ 29 rfl).2
  g__law_told_games := He.glo_ok X G (c.fact 28 (f := (He.Fa.glo "_law_told_games").ok) rfl)
  F__law_far_right := fun_of (d := d__law_far_right) rfl (c.fn_ 30 rfl).1 (c.fn_ 30 rfl).2
  g__law_far_right := He.glo_ok X G (c.fact 29 (f := (He.Fa.glo "_law_far_right").ok) rfl)
  F_law := fun_of (d := d_law) rfl (c.fn_ 31 rfl).1 (c.fn_ 31 rfl).2
  g_law := He.glo_ok X G (c.fact 30 (f := (He.Fa.glo "law").ok) rfl)
  nl := c.fact 31 (f := noList) rfl
  con_MOST_GAMES := conB_ok X G (c.fact 32 (f := (conB "MOST_GAMES" k_MOST_GAMES)) rfl)
  con_MOST_PLACES := conB_ok X G (c.fact 33 (f := (conB "MOST_PLACES" k_MOST_PLACES)) rfl)
  con_MOST_RATING := conB_ok X G (c.fact 34 (f := (conB "MOST_RATING" k_MOST_RATING)) rfl)
  con_MOST_ROWS := conB_ok X G (c.fact 35 (f := (conB "MOST_ROWS" k_MOST_ROWS)) rfl)
  con_RESULTS := conB_ok X G (c.fact 36 (f := (conB "RESULTS" k_RESULTS)) rfl)
  td_RESULTS := tupDB_ok X G (c.fact 37 (f := (tupDB "RESULTS")) rfl)
  g_LadderError := He.glo_ok X G (c.fact 38 (f := (He.Fa.glo "LadderError").ok) rfl)
  g_BadBook := He.glo_ok X G (c.fact 39 (f := (He.Fa.glo "BadBook").ok) rfl)
  g_BadPlace := He.glo_ok X G (c.fact 40 (f := (He.Fa.glo "BadPlace").ok) rfl)
  g_BadGame := He.glo_ok X G (c.fact 41 (f := (He.Fa.glo "BadGame").ok) rfl)
  g_TooMany := He.glo_ok X G (c.fact 42 (f := (He.Fa.glo "TooMany").ok) rfl)
  g_Book := He.glo_ok X G (c.fact 43 (f := (He.Fa.glo "Book").ok) rfl)
  g_Twins := He.glo_ok X G (c.fact 44 (f := (He.Fa.glo "Twins").ok) rfl)
  er_BadBook := ErD.txt PySem.W.kxs_ValueError PySem.F.excBase_ValueError PySem.F.store_ValueError ini_BadBook (fun _ _ _ _ _ _ _ _ _ => rfl) (by decide +kernel) (c.er_ 0 rfl) (c.fact 45 (f := (fun K => erB P0.main.file "ValueError" "ValueError.__new__" "ValueError.__init__" He.veBase K e_BadBook)) rfl)
  xf_2 := excB_ok (c.fact 46 (f := (fun K => excB K (caK K 2))) rfl)
  no_2 := eqO_ok (c.fact 47 (f := (fun K => eqO (PySem.W.findIn K (.ref (caK K 2)) "part") (some none))) rfl)
  er_BadPlace := ErD.txt PySem.W.kxs_ValueError PySem.F.excBase_ValueError PySem.F.store_ValueError ini_BadPlace (fun _ _ _ _ _ _ _ _ _ => rfl) (by decide +kernel) (c.er_ 1 rfl) (c.fact 48 (f := (fun K => erB P0.main.file "ValueError" "ValueError.__new__" "ValueError.__init__" He.veBase K e_BadPlace)) rfl)
  xf_3 := excB_ok (c.fact 49 (f := (fun K => excB K (caK K 3))) rfl)
  no_3 := eqO_ok (c.fact 50 (f := (fun K => eqO (PySem.W.findIn K (.ref (caK K 3)) "place") (some none))) rfl)
  er_BadGame := ErD.txt PySem.W.kxs_ValueError PySem.F.excBase_ValueError PySem.F.store_ValueError ini_BadGame (fun _ _ _ _ _ _ _ _ _ => rfl) (by decide +kernel) (c.er_ 2 rfl) (c.fact 51 (f := (fun K => erB P0.main.file "ValueError" "ValueError.__new__" "ValueError.__init__" He.veBase K e_BadGame)) rfl)
  xf_4 := excB_ok (c.fact 52 (f := (fun K => excB K (caK K 4))) rfl)
  no_4 := eqO_ok (c.fact 53 (f := (fun K => eqO (PySem.W.findIn K (.ref (caK K 4)) "value") (some none))) rfl)
  er_TooMany := ErD.txt PySem.W.kxs_OverflowError PySem.F.excBase_OverflowError PySem.F.store_OverflowError ini_TooMany (fun _ _ _ _ _ _ _ _ _ => rfl) (by decide +kernel) (c.er_ 3 rfl) (c.fact 54 (f := (fun K => erB P0.main.file "OverflowError" "OverflowError.__new__" "OverflowError.__init__" oeBase K e_TooMany)) rfl)
  xf_25 := excB_ok (c.fact 55 (f := (fun K => excB K (caK K 25))) rfl)
  no_25 := eqO_ok (c.fact 56 (f := (fun K => eqO (PySem.W.findIn K (.ref (caK K 25)) "limit") (some none))) rfl)
  exm_2_BadPlace := of_decide_eq_true (c.fact 57 (f := (fun K => decide (PySem.W.exmOne K (.ref (caK K 2)) (.ref (caK K 3)) = some false))) rfl)
  exm_2_TooMany := of_decide_eq_true (c.fact 58 (f := (fun K => decide (PySem.W.exmOne K (.ref (caK K 2)) (.ref (caK K 25)) = some false))) rfl)
  exm_3_BadPlace := of_decide_eq_true (c.fact 59 (f := (fun K => decide (PySem.W.exmOne K (.ref (caK K 3)) (.ref (caK K 3)) = some true))) rfl)
  exm_3_TooMany := of_decide_eq_true (c.fact 60 (f := (fun K => decide (PySem.W.exmOne K (.ref (caK K 3)) (.ref (caK K 25)) = some false))) rfl)
  exm_4_BadPlace := of_decide_eq_true (c.fact 61 (f := (fun K => decide (PySem.W.exmOne K (.ref (caK K 4)) (.ref (caK K 3)) = some false))) rfl)
  exm_4_TooMany := of_decide_eq_true (c.fact 62 (f := (fun K => decide (PySem.W.exmOne K (.ref (caK K 4)) (.ref (caK K 25)) = some false))) rfl)
  exm_25_BadPlace := of_decide_eq_true (c.fact 63 (f := (fun K => decide (PySem.W.exmOne K (.ref (caK K 25)) (.ref (caK K 3)) = some false))) rfl)
  exm_25_TooMany := of_decide_eq_true (c.fact 64 (f := (fun K => decide (PySem.W.exmOne K (.ref (caK K 25)) (.ref (caK K 25)) = some true))) rfl)
  own_Book := ownB_ok (c.fact 65 (f := (fun K => ownB K (caK K 30))) rfl)
  own_Twins := ownB_ok (c.fact 66 (f := (fun K => ownB K (caK K 41))) rfl)
  na_Book_bonus := eqO_ok (c.fact 67 (f := (fun K => eqO (PySem.W.findIn K (.ref (caK K 30)) "bonus") (some none))) rfl)
  na_Book_fresh := eqO_ok (c.fact 68 (f := (fun K => eqO (PySem.W.findIn K (.ref (caK K 30)) "fresh") (some none))) rfl)
  na_Book_high := eqO_ok (c.fact 69 (f := (fun K => eqO (PySem.W.findIn K (.ref (caK K 30)) "high") (some none))) rfl)
  na_Book_low := eqO_ok (c.fact 70 (f := (fun K => eqO (PySem.W.findIn K (.ref (caK K 30)) "low") (some none))) rfl)
  na_Book_table := eqO_ok (c.fact 71 (f := (fun K => eqO (PySem.W.findIn K (.ref (caK K 30)) "table") (some none))) rfl)
  na_Book_times := eqO_ok (c.fact 72 (f := (fun K => eqO (PySem.W.findIn K (.ref (caK K 30)) "times") (some none))) rfl)
  na_Twins_fault := eqO_ok (c.fact 73 (f := (fun K => eqO (PySem.W.findIn K (.ref (caK K 41)) "fault") (some none))) rfl)
  na_Twins_many_players := eqO_ok (c.fact 74 (f := (fun K => eqO (PySem.W.findIn K (.ref (caK K 41)) "many_players") (some none))) rfl)
  na_Twins_one := eqO_ok (c.fact 75 (f := (fun K => eqO (PySem.W.findIn K (.ref (caK K 41)) "one") (some none))) rfl)
  na_Twins_other := eqO_ok (c.fact 76 (f := (fun K => eqO (PySem.W.findIn K (.ref (caK K 41)) "other") (some none))) rfl)
  na_Twins_pairs := eqO_ok (c.fact 77 (f := (fun K => eqO (PySem.W.findIn K (.ref (caK K 41)) "pairs") (some none))) rfl)
  na_Twins_sources := eqO_ok (c.fact 78 (f := (fun K => eqO (PySem.W.findIn K (.ref (caK K 41)) "sources") (some none))) rfl)
  me_Book_game := He.meth_ok (c.fact 79 (f := (fun K => (He.Fa.meth "Book" "game").ok K)) rfl)
  me_Book_last_phase := He.meth_ok (c.fact 80 (f := (fun K => (He.Fa.meth "Book" "last_phase").ok K)) rfl)
  me_Book_moved := He.meth_ok (c.fact 81 (f := (fun K => (He.Fa.meth "Book" "moved").ok K)) rfl)
  me_Book_places := He.meth_ok (c.fact 82 (f := (fun K => (He.Fa.meth "Book" "places").ok K)) rfl)
  me_Book_start := He.meth_ok (c.fact 83 (f := (fun K => (He.Fa.meth "Book" "start").ok K)) rfl)
  me_Twins_look_at := He.meth_ok (c.fact 84 (f := (fun K => (He.Fa.meth "Twins" "look_at").ok K)) rfl)
  me_Twins_many_games := He.meth_ok (c.fact 85 (f := (fun K => (He.Fa.meth "Twins" "many_games").ok K)) rfl)
  me_Twins_put_game := He.meth_ok (c.fact 86 (f := (fun K => (He.Fa.meth "Twins" "put_game").ok K)) rfl)
  me_Twins_put_games := He.meth_ok (c.fact 87 (f := (fun K => (He.Fa.meth "Twins" "put_games").ok K)) rfl)
  me_Twins_take := He.meth_ok (c.fact 88 (f := (fun K => (He.Fa.meth "Twins" "take").ok K)) rfl)
  mk_Book := He.mkr_ok (c.fact 89 (f := (fun K => (He.Fa.mkr "Book").ok K)) rfl)
  mk_Twins := He.mkr_ok (c.fact 90 (f := (fun K => (He.Fa.mkr "Twins").ok K)) rfl)
  du_Book___contains__ := dunB_ok (c.fact 91 (f := (fun K => dunB "__contains__" K (caK K 30))) rfl)
  du_Book___len__ := dunB_ok (c.fact 92 (f := (fun K => dunB "__len__" K (caK K 30))) rfl)
end K81
open PySem PySem.W PySem.Calls PyProof.Rows in
theorem K81.holds_of (p : K81.Plain) : PySem.Challenge.rw_liftedladders_k81_books_alike_refused.Holds := by
  w_on; o_law
  refine HandSHeadRun.head_any (r := OpenLaw.row PySem.Challenge.rw_liftedladders_k81_books_alike_refused) (q := view (OpenLaw.row PySem.Challenge.rw_liftedladders_k81_books_alike_refused).prog [36]) (H := K81.hk) (ob := K81.ob) (M := 8000) (loose := K81.loose) (d := HandSHeadRun.topDef (OpenLaw.row PySem.Challenge.rw_liftedladders_k81_books_alike_refused).prog 36) (kwd := []) K81.ob_eq
    (by kernel_rfl) (fun s => by kernel_rfl) K81.run (by kernel_rfl) (by kernel_rfl) (by kernel_rfl) (by rfl) (by first | assumption | decide +kernel) (by decide +kernel) ⟨rfl, rfl, rfl, rfl, rfl, by decide +kernel⟩ ?hw ?hc
  case hw => w_witness2
  case hc =>
    refine Lad.walk_G (l := PySem.Challenge.rw_liftedladders_k81_books_alike_refused) (n := 63) (k := 35) (x := "_law_script") rfl (by decide) (by kernel_rfl) ⟨rfl, by decide, by decide⟩ ?F
    intro w mg fa h Y G hmg0
    obtain ⟨K, KX, c⟩ := Y
    have hmg : mg ("law" : PySem.Str) = some (.ref fa) := by
      have e : (HandSHeadRun.topDef (OpenLaw.row PySem.Challenge.rw_liftedladders_k81_books_alike_refused).prog 36).name = ("law" : PySem.Str) := by kernel_rfl
      rw [← e]
      exact hmg0
    have t := K81.txt KX G c
    have e := hmg.symm.trans t.g_law
    cases e
    refine ⟨K, Lad.fdOf K (He.ga K "law"), _, t.nl, KX, ?_, fun H a ns hl hO hS => Lad.sp_law (S := ⟨K, (K81.TT K).ca, (K81.TT K).nm, (K81.TT K).fld, _, _, (K81.TT K).ex⟩) t.nl p hl hO hS, fun base _ _ => K81.ok_law t⟩
    obtain ⟨oc, od, kV, doc, pm, an, cdv, ct, osl, e, lk, hcd⟩ := t.F_law.ex
    rw [e]
    exact fun s u => BindsTo.of_eq rfl
end
section
set_option maxRecDepth 10000
namespace Lad
open PySem L2
section
variable (f g f1 f2 f3 : En → Hea → Res Val) (s s1 s2 : En → Hea → SRes) (l l2 : En → Hea → Res (List Val)) (e : En) (h : Hea)
@[simp] theorem ap_seq : sSeq s1 s2 e h = match s1 e h with | .nx e1 h1 => s2 e1 h1 | r => r := rfl
@[simp] theorem ap_nil : sNil e h = .nx e h := rfl
@[simp] theorem ap_set (i) : sSet i f e h = ofR (f e h) e fun d h1 => .nx (e.set i (some d)) h1 := rfl
@[simp] theorem ap_ret : sRet f e h = ofR (f e h) e fun d h1 => .rt d h1 := rfl
@[simp] theorem ap_retN : sRetN e h = .rt .non h := rfl
@[simp] theorem ap_ex : sEx f e h = ofR (f e h) e fun _ h1 => .nx e h1 := rfl
@[simp] theorem ap_if : sIf f s1 s2 e h = ofR (f e h) e fun d h1 => match d with | .bl true => s1 e h1 | .bl false => s2 e h1 | _ => .stuck := rfl
@[simp] theorem ap_par (is) : sPar is l e h = ofR (l e h) e fun ds h1 => match setAll is ds e with | some e1 => .nx e1 h1 | none => .stuck := rfl
@[simp] theorem ap_asg (b) : sAsg b f e h = ofR (f e h) e fun d h1 => match b d e with | some e1 => .nx e1 h1 | none => .stuck := rfl
@[simp] theorem ap_gT (is xs) : gT is (.tup xs) e = setAll is xs e := rfl
@[simp] theorem ap_gN (i v) : gN i v e = some (e.set i (some v)) := rfl
@[simp] theorem ap_all0 : setAll [] [] e = some e := rfl
@[simp] theorem ap_all1 (i is v vs) : setAll (i :: is) (v :: vs) e = setAll is vs (e.set i (some v)) := rfl
@[simp] theorem ap_ofOk {α : Type} (a : α) (k : α → Hea → SRes) : ofR (.ok a h) e k = k a h := rfl
@[simp] theorem ap_ofExc {α : Type} (c d) (k : α → Hea → SRes) : ofR (.exc c d h) e k = .exc c d e h := rfl
@[simp] theorem ap_bindOk {α β : Type} (a : α) (k : α → Hea → Res β) : (Res.ok a h).bind k = k a h := rfl
@[simp] theorem ap_bindExc {α β : Type} (c d) (k : α → Hea → Res β) : (Res.exc c d h : Res α).bind k = .exc c d h := rfl
@[simp] theorem ap_var (i) : eVar i e h = match e[i]? with | some (some d) => .ok d h | _ => .stuck := rfl
@[simp] theorem ap_c (d) : eC d e h = .ok d h := rfl
@[simp] theorem ap_bin (o) : eBin o f1 f2 e h = (f1 e h).bind fun x h1 => (f2 e h1).bind fun y h2 => opt (o h2 x y) h2 := rfl
@[simp] theorem ap_un (o) : eUn o f e h = (f e h).bind fun x h1 => opt (o h1 x) h1 := rfl
@[simp] theorem ap_and : eAnd f1 f2 e h = (f1 e h).bind fun x h1 => match x with | .bl true => f2 e h1 | .bl false => .ok (.bl false) h1 | _ => .stuck := rfl
@[simp] theorem ap_or : eOr f1 f2 e h = (f1 e h).bind fun x h1 => match x with | .bl true => .ok (.bl true) h1 | .bl false => f2 e h1 | _ => .stuck := rfl
@[simp] theorem ap_eif : eIf f1 f2 f3 e h = (f1 e h).bind fun x h1 => match x with | .bl true => f2 e h1 | .bl false => f3 e h1 | _ => .stuck := rfl
@[simp] theorem ap_anil : aNil e h = .ok [] h := rfl
@[simp] theorem ap_acons : aCons f l e h = (f e h).bind fun x h1 => (l e h1).bind fun xs h2 => .ok (x :: xs) h2 := rfl
@[simp] theorem ap_cb (o) : eCB o l e h = (l e h).bind fun ds h1 => opt (o h1 ds) h1 := rfl
@[simp] theorem ap_call (cf) : eCall cf l e h = (l e h).bind cf := rfl
@[simp] theorem ap_it (o) : eIt o f e h = (f e h).bind fun d h1 => match itemsOf h1 d with | some xs => opt (o xs) h1 | none => .stuck := rfl
@[simp] theorem ap_itL (o) : eItL o l e h = (l e h).bind fun xs h1 => opt (o xs) h1 := rfl
@[simp] theorem ap_tup : eTup l e h = (l e h).bind fun xs h1 => if xs.length ≤ 16777216 then .ok (.tup xs) h1 else .stuck := rfl
@[simp] theorem ap_disp : lDisp l e h = (l e h).bind fun xs h1 => if xs.length ≤ 16777216 then .ok xs h1 else .stuck := rfl
@[simp] theorem ap_new : eNew l e h = (l e h).bind fun xs h1 => .ok (.ref h1.length) (h1 ++ [.lst xs]) := rfl
@[simp] theorem ap_chain (o o') : eChain o o' f1 f2 f3 e h = (f1 e h).bind fun x h1 => (f2 e h1).bind fun y h2 => match o h2 x y with | some (.bl true) => (f3 e h2).bind fun z h3 => opt (o' h3 y z) h3 | some (.bl false) => .ok (.bl false) h2 | _ => .stuck := rfl
@[simp] theorem ap_optS (d) : opt (some d) h = .ok d h := rfl
@[simp] theorem ap_raise (c) : sRaise c f e h = ofR (f e h) e fun d h1 => .exc c d e h1 := rfl
@[simp] theorem ap_yes : eYes e h = .ok (.bl true) h := rfl
@[simp] theorem ap_noX {α : Type} (a : α) : noX (.ok a h) = .ok a h := rfl
@[simp] theorem op_add (a b) : oAdd h (.int a) (.int b) = some (.int (a + b)) := rfl
@[simp] theorem op_sub (a b) : oSub h (.int a) (.int b) = some (.int (a - b)) := rfl
@[simp] theorem op_mul (a b) : oMul h (.int a) (.int b) = if mulOk a b = true then some (.int (a * b)) else none := rfl
@[simp] theorem op_div (a b) : oDiv h (.int a) (.int b) = if b ≠ 0 ∧ b.natAbs.log2 < 9000 then some (.int (a.fdiv b)) else none := rfl
@[simp] theorem op_mod (a b) : oMod h (.int a) (.int b) = if b ≠ 0 then some (.int (a.fmod b)) else none := rfl
@[simp] theorem op_neg (a) : oNeg h (.int a) = some (.int (-a)) := rfl
@[simp] theorem op_lt (a b) : oLt h (.int a) (.int b) = some (.bl (decide (a < b))) := rfl
@[simp] theorem op_le (a b) : oLe h (.int a) (.int b) = some (.bl (decide (a ≤ b))) := rfl
@[simp] theorem op_gt (a b) : oGt h (.int a) (.int b) = some (.bl (decide (b < a))) := rfl
@[simp] theorem op_ge (a b) : oGe h (.int a) (.int b) = some (.bl (decide (b ≤ a))) := rfl
@[simp] theorem op_not (b) : oNot h (.bl b) = some (.bl (!b)) := rfl
@[simp] theorem op_isb (a b) : oIs h (.bl a) (.bl b) = some (.bl (decide (a = b))) := rfl
@[simp] theorem op_isnb (a b) : oIsNot h (.bl a) (.bl b) = some (.bl (!decide (a = b))) := rfl
@[simp] theorem g_int' (a) : gInt h [.int a] = some (.int a) := rfl
@[simp] theorem g_intb (a) : gInt h [.bl a] = some (.int (if a then 1 else 0)) := rfl
@[simp] theorem g_len' (xs) : gLen xs = some (.int xs.length) := rfl
@[simp] theorem it_tup (xs) : itemsOf h (.tup xs) = some xs := rfl
@[simp] theorem it_ref (i) : itemsOf h (.ref i) = lstAt h i := rfl
@[simp] theorem eq_int (a b : Int) : eqB h (.int a) (.int b) = some (decide (a = b)) := by
  unfold eqB
  simp only [toD]
  rw [if_pos ⟨rfl, rfl⟩]
  simp [PyData.eqv]
  rfl
@[simp] theorem eq_bl (a b : Bool) : eqB h (.bl a) (.bl b) = some (decide (a = b)) := by
  unfold eqB
  simp only [toD]
  rw [if_pos ⟨rfl, rfl⟩]
  cases a <;> cases b <;> rfl
@[simp] theorem eq_tup2 (a b c d : Int) : eqB h (.tup [.int a, .int b]) (.tup [.int c, .int d]) = some (decide (a = c ∧ b = d)) := by
  unfold eqB
  simp only [toD, mapO]
  rw [if_pos ⟨rfl, rfl⟩]
  simp only [PyData.eqv, PyData.eqvAll, Bool.and_true]
  by_cases h1 : a = c <;> by_cases h2 : b = d <;> simp [h1, h2]
@[simp] theorem op_eq (a b) : oEq h a b = (eqB h a b).map .bl := rfl
@[simp] theorem op_ne (a b) : oNe h a b = (eqB h a b).map fun c => .bl (!c) := rfl
@[simp] theorem op_ix0 (a b : Val) : oIx h (.tup [a, b]) (.int 0) = some a := rfl
@[simp] theorem op_ix1 (a b : Val) : oIx h (.tup [a, b]) (.int 1) = some b := rfl
end
theorem mulOk_l {i j : Int} (h : i.natAbs < 2 ^ 64) : mulOk i j = true := by
  unfold mulOk
  rw [Bool.or_eq_true]
  left
  exact decide_eq_true (.inl (by omega))
theorem mulOk_r {i j : Int} (h : j.natAbs < 2 ^ 64) : mulOk i j = true := by
  unfold mulOk
  rw [Bool.or_eq_true]
  left
  exact decide_eq_true (.inr (by omega))
@[simp] theorem fin_same (h : Hea) (d : Val) : fin h d h = .ok d h := by unfold fin; rw [if_pos rfl]
@[simp] theorem finK_same (h : Hea) (d : Val) : finK h d h = .ok d h := by unfold finK; rw [if_pos rfl]
theorem fin_len {h h' : Hea} {d : Val} (hl : h'.length = h.length) : fin h d h' = .ok d h' := by unfold fin; rw [if_pos hl]
theorem run_rt {fn : Hea → Val → Hea → Res Val} {np ns : Nat} {b : En → Hea → SRes} {ds : List Val} {h h' : Hea} {d : Val} (hl : ds.length = np) (e : b (startE ns ds) h = .rt d h') : runG fn np ns b ds h = fn h d h' := by unfold runG; rw [if_pos hl, e]
section
variable {f : En → Hea → Res Val} {l : En → Hea → Res (List Val)} {s s1 s2 : En → Hea → SRes} {e e1 : En} {h h1 : Hea} {d : Val} {ds : List Val} {r : SRes}
theorem seq_nx (a : s1 e h = .nx e1 h1) (b : s2 e1 h1 = r) : sSeq s1 s2 e h = r := by simp [a, b]
theorem seq_if_no (a : f e h = .ok (.bl false) h1) (b : s2 e h1 = r) : sSeq (sIf f s1 sNil) s2 e h = r := by simp [a, b]
theorem if_no (a : f e h = .ok (.bl false) h1) : sIf f s1 sNil e h = .nx e h1 := by simp [a]
theorem if_yes (a : f e h = .ok (.bl true) h1) (b : s1 e h1 = r) : sIf f s1 s2 e h = r := by simp [a, b]
theorem seq_set {i : Nat} (a : f e h = .ok d h1) (b : s2 (e.set i (some d)) h1 = r) : sSeq (sSet i f) s2 e h = r := by simp [a, b]
theorem ret_ok (a : f e h = .ok d h1) : sRet f e h = .rt d h1 := by simp [a]
end
section
variable {src : En → Hea → Res Src} {b : Val → En → Option En} {body : En → Hea → SRes} {e : En} {h h1 : Hea} {xs : List Val} {dead : List Nat}
theorem for_eq (a : src e h = .ok (srcFix xs) h1) : sFor src b body e h = forL b body xs e h1 := by
  unfold sFor
  rw [a]
  rfl
theorem forK_eq (a : src e h = .ok (srcFix xs) h1) : sForK dead src b body e h = forKL (gcN dead h1.length) b body xs e h1 := by
  unfold sForK
  rw [a]
  rfl
/-- each turn ends as it began -/
theorem forKL_const {gc : En → Hea → En × Hea} (w : ∀ v ∈ xs, ∃ e1 e2 h2, b v e = some e1 ∧ body e1 h = .nx e2 h2 ∧ gc e2 h2 = (e, h)) : forKL gc b body xs e h = .nx e h := by
  induction xs with
  | nil => rfl
  | cons v vs ih =>
    obtain ⟨e1, e2, h2, a1, a2, a3⟩ := w v List.mem_cons_self
    unfold forKL
    simp only [a1, a2, a3]
    exact ih fun u hu => w u (List.mem_cons_of_mem _ hu)
end
section
variable {f f1 f2 f3 : En → Hea → Res Val} {l : En → Hea → Res (List Val)} {e : En} {h h1 h2 : Hea} {r : Res Val} {d d2 d3 : Val} {ds : List Val}
theorem or_no (a : f1 e h = .ok (.bl false) h1) (b : f2 e h1 = r) : eOr f1 f2 e h = r := by simp only [ap_or, a, ap_bindOk]; exact b
theorem not_ok {b : Bool} (a : f e h = .ok (.bl b) h1) : eUn oNot f e h = .ok (.bl (!b)) h1 := by simp only [ap_un, a, ap_bindOk]; rfl
theorem bin_ok {o : Hea → Val → Val → Option Val} (a : f1 e h = .ok d h1) (b : f2 e h1 = .ok d2 h2) (c : o h2 d d2 = some d3) : eBin o f1 f2 e h = .ok d3 h2 := by simp only [ap_bin, a, ap_bindOk, b, c, ap_optS]
theorem acons_ok {xs : List Val} (a : f e h = .ok d h1) (b : l e h1 = .ok xs h2) : aCons f l e h = .ok (d :: xs) h2 := by simp only [ap_acons, a, ap_bindOk, b]
theorem tup_ok (a : l e h = .ok ds h1) (hl : ds.length ≤ 16777216) : eTup l e h = .ok (.tup ds) h1 := by simp only [ap_tup, a, ap_bindOk, if_pos hl]
theorem call_eq {cf : List Val → Hea → Res Val} (a : l e h = .ok ds h1) (b : cf ds h1 = r) : eCall cf l e h = r := by simp only [ap_call, a, ap_bindOk]; exact b
end
@[simp] theorem src_seqT (f : En → Hea → Res Val) (e : En) (h : Hea) : iSeq f e h = (f e h).bind fun d h1 => match d with
  | .ref i => if (lstAt h1 i).isSome = true then .ok (srcLive i) h1 else .stuck
  | .tup xs => .ok (srcFix xs) h1
  | .lst xs => .ok (srcFix xs) h1
  | _ => .stuck := rfl
@[simp] theorem src_tmp (f : En → Hea → Res (List Val)) (e : En) (h : Hea) : iTmp f e h = (f e h).bind fun xs h1 => .ok (srcFix xs) h1 := rfl
@[simp] theorem ap_lst (l : En → Hea → Res (List Val)) (e : En) (h : Hea) : eLst l e h = (l e h).bind fun xs h1 => .ok (.lst xs) h1 := rfl
@[simp] theorem ls_lst (h : Hea) (xs : List Val) : lstOf h (.lst xs) = some xs := rfl
@[simp] theorem it_lst (h : Hea) (xs : List Val) : itemsOf h (.lst xs) = some xs := rfl
end Lad
end
section
set_option maxRecDepth 10000
namespace Lad
end Lad
end
section
set_option maxRecDepth 10000
namespace Lad
open PySem L2
@[simp] theorem ap_setIx (fv fo fi : En → Hea → Res Val) (e : En) (h : Hea) : sSetIx fv fo fi e h = ofR ((fv e h).bind fun v h1 => (fo e h1).bind fun o h2 => (fi e h2).bind fun i h3 => match setIx h3 o i v with
    | some h4 => .ok Val.non h4
    | none => .stuck) e fun _ h4 => .nx e h4 := rfl
/-- the script, a pool of a number and a state, and what else is held -/
abbrev Hp2 (ns : List Int) (a b : Int) (t : Hea) : Hea := .fro ns :: .lst [.int a, .int b] :: t
section
variable (ns : List Int) (a b : Int) (t : Hea)
@[simp] theorem hp2_ix0 : oIx (Hp2 ns a b t) (.ref 1) (.int 0) = some (.int a) := rfl
@[simp] theorem hp2_ix1 : oIx (Hp2 ns a b t) (.ref 1) (.int 1) = some (.int b) := rfl
@[simp] theorem hp2_set0 (v : Int) : setIx (Hp2 ns a b t) (.ref 1) (.int 0) (.int v) = some (Hp2 ns v b t) := rfl
@[simp] theorem hp2_set1 (v : Int) : setIx (Hp2 ns a b t) (.ref 1) (.int 1) (.int v) = some (Hp2 ns a v t) := rfl
end
def PoolOk (a b : Int) : Prop := 0 ≤ a ∧ 0 ≤ b ∧ b < 2147483647
end Lad
namespace Drw
open PySem L2 Lad
def b__law_draw : En → Hea → SRes := (sSeq (sIf (eBin oGt (eBin oIx (eVar 0) (eC (.int 0))) (eC (.int 0))) (sSeq (sSet 2 (eBin oMod (eCB gInt (aCons (eBin oIx (eVar 0) (eC (.int 0))) aNil)) (eVar 1)))
  (sSeq (sSetIx (eBin oDiv (eBin oIx (eVar 0) (eC (.int 0))) (eVar 1)) (eVar 0) (eC (.int 0)))
  (sRet (eVar 2)))) sNil)
  (sSeq (sSetIx (eBin oMod (eCB gInt (aCons (eBin oAdd (eBin oMul (eBin oIx (eVar 0) (eC (.int 1))) (eC (.int 48271))) (eC (.int 11))) aNil)) (eC (.int 2147483647))) (eVar 0) (eC (.int 1)))
  (sRet (eBin oMod (eCB gInt (aCons (eBin oDiv (eBin oMod (eCB gInt (aCons (eBin oMul (eBin oIx (eVar 0) (eC (.int 1))) (eBin oIx (eVar 0) (eC (.int 1)))) aNil)) (eC (.int 2147483629))) (eC (.int 16))) aNil)) (eVar 1)))))
def c__law_draw : List Val → Hea → Res Val := runB 2 3 b__law_draw
theorem draw_ok (ns : List Int) (t : Hea) {a b m : Int} (P : PoolOk a b) (hm : 0 < m) (lm : m.natAbs.log2 < 9000) :
    ∃ r a' b' : Int, 0 ≤ r ∧ r < m ∧ PoolOk a' b' ∧ c__law_draw [.ref 1, .int m] (Hp2 ns a b t) = .ok (.int r) (Hp2 ns a' b' t) := by
  obtain ⟨ha, hb, hb2⟩ := P
  have hm' : ¬ m = 0 := by omega
  unfold c__law_draw runB runG b__law_draw
  by_cases h0 : 0 < a
  · refine ⟨a.fmod m, a.fdiv m, b, Int.fmod_nonneg_of_pos _ hm, Int.fmod_lt_of_pos _ hm, ⟨Int.fdiv_nonneg ha (by omega), hb, hb2⟩, ?_⟩
    simp [startE, h0, hm', lm]
    exact fin_len rfl
  · have a0 : a = 0 := by omega
    subst a0
    have m1 : mulOk b 48271 = true := mulOk_r (by decide)
    have nb : 0 ≤ (b * 48271 + 11).fmod 2147483647 := Int.fmod_nonneg_of_pos _ (by decide)
    have nb2 : (b * 48271 + 11).fmod 2147483647 < 2147483647 := Int.fmod_lt_of_pos _ (by decide)
    generalize hn : (b * 48271 + 11).fmod 2147483647 = nb' at nb nb2
    have m2 : mulOk nb' nb' = true := mulOk_r (by omega)
    refine ⟨(((nb' * nb').fmod 2147483629).fdiv 16).fmod m, 0, nb', Int.fmod_nonneg_of_pos _ hm, Int.fmod_lt_of_pos _ hm, ⟨Int.le_refl _, nb, nb2⟩, ?_⟩
    have l16 : Nat.log2 16 < 9000 := by decide
    simp [startE, m1, hn, m2, hm', l16]
    exact fin_len rfl
def b_poolB : En → Hea → SRes := (sSeq (sSet 2 (eIf (eBin oLt (eVar 1) (eIt gLen (eVar 0))) (eCB gMax2 (aCons (eCB gInt (aCons (eBin oIx (eVar 0) (eVar 1)) aNil)) (aCons (eCB gInt (aCons (eBin oSub (eUn oNeg (eC (.int 1))) (eBin oIx (eVar 0) (eVar 1))) aNil)) aNil))) (eC (.int 7))))
  (sSeq (sSet 3 (eBin oAdd (eBin oMod (eCB gInt (aCons (eBin oMul (eBin oAdd (eBin oMod (eCB gInt (aCons (eVar 2) aNil)) (eC (.int 2147483629))) (eBin oMul (eC (.int 104729)) (eBin oAdd (eVar 1) (eC (.int 1))))) (eC (.int 48271))) aNil)) (eC (.int 2147483629))) (eC (.int 1))))
  (sRet (eNew (lDisp (aCons (eBin oMul (eVar 2) (eCB gInt (aCons (eBin oGe (eVar 2) (eBin oPow (eC (.int 10)) (eC (.int 18)))) aNil))) (aCons (eBin oMod (eCB gInt (aCons (eBin oMul (eVar 3) (eVar 3)) aNil)) (eC (.int 2147483629))) aNil)))))))
def c_poolB : List Val → Hea → Res Val := runK 2 4 b_poolB
theorem pow18 (h : Hea) : oPow h (.int 10) (.int 18) = some (.int 1000000000000000000) := rfl
theorem poolB_ok (ns : List Int) (k : Nat) (hk : k < 64) : ∃ a b : Int, PoolOk a b ∧ c_poolB [.ref 0, .int k] [.fro ns] = .ok (.ref 1) (Hp2 ns a b []) := by
  have el : itemsOf [Ob.fro ns] (.ref 0) = some (ns.map Val.int) := rfl
  have hs : ∃ z : Int, 0 ≤ z ∧ eIf (eBin oLt (eVar 1) (eIt gLen (eVar 0))) (eCB gMax2 (aCons (eCB gInt (aCons (eBin oIx (eVar 0) (eVar 1)) aNil)) (aCons (eCB gInt (aCons (eBin oSub (eUn oNeg (eC (.int 1))) (eBin oIx (eVar 0) (eVar 1))) aNil)) aNil))) (eC (.int 7)) (startE 4 [.ref 0, .int k]) [.fro ns] = .ok (.int z) [.fro ns] := by
    by_cases hl : k < ns.length
    · have ei : oIx [Ob.fro ns] (.ref 0) (.int k) = some (.int ns[k]) := by
        show L2.atI (ns.map Val.int) (k : Int) = _
        unfold L2.atI L2.ixN
        rw [if_pos (by omega), if_pos (by simp; omega)]
        simp [hl]
      have e1 : eIt gLen (eVar 0) (startE 4 [.ref 0, .int k]) [.fro ns] = .ok (.int ns.length) [.fro ns] := by simp [startE, lstAt]
      have hd : decide ((k : Int) < (ns.length : Int)) = true := decide_eq_true (by omega)
      generalize hz : ns[k] = z at ei
      refine ⟨if -1 - z > z then -1 - z else z, by split <;> omega, ?_⟩
      have e2 : eVar 1 (startE 4 [.ref 0, .int k]) [.fro ns] = .ok (.int k) [.fro ns] := rfl
      have e3 : eVar 0 (startE 4 [.ref 0, .int k]) [.fro ns] = .ok (.ref 0) [.fro ns] := rfl
      generalize (k : Int) = kk at *
      generalize (ns.length : Int) = nn at *
      simp only [ap_eif, ap_bin, e1, e2, e3, ap_bindOk, Lad.op_lt, ap_optS, hd, ap_cb, ap_acons, ap_anil, ei, g_int', ap_un, ap_c, Lad.op_neg, Lad.op_sub, gMax2]
    · have e1 : eIt gLen (eVar 0) (startE 4 [.ref 0, .int k]) [.fro ns] = .ok (.int ns.length) [.fro ns] := by simp [startE, lstAt]
      have hd : decide ((k : Int) < (ns.length : Int)) = false := decide_eq_false (by omega)
      have e2 : eVar 1 (startE 4 [.ref 0, .int k]) [.fro ns] = .ok (.int k) [.fro ns] := rfl
      refine ⟨7, by decide, ?_⟩
      generalize (k : Int) = kk at *
      generalize (ns.length : Int) = nn at *
      simp only [ap_eif, ap_bin, e1, e2, ap_bindOk, Lad.op_lt, ap_optS, hd, ap_c]
  obtain ⟨z, hz, ez⟩ := hs
  have h1 : 0 ≤ (z.fmod 2147483629 + 104729 * ((k : Int) + 1)) := by
    have := Int.fmod_nonneg_of_pos z (b := 2147483629) (by decide)
    omega
  have h2 : (z.fmod 2147483629 + 104729 * ((k : Int) + 1)) < 2147483629 + 104729 * 65 := by
    have := Int.fmod_lt_of_pos z (b := 2147483629) (by decide)
    omega
  generalize hw : ((z.fmod 2147483629 + 104729 * ((k : Int) + 1)) * 48271).fmod 2147483629 + 1 = w
  have w1 : 0 ≤ w := by
    have := Int.fmod_nonneg_of_pos ((z.fmod 2147483629 + 104729 * ((k : Int) + 1)) * 48271) (b := 2147483629) (by decide)
    omega
  have w2 : w < 2147483630 := by
    have := Int.fmod_lt_of_pos ((z.fmod 2147483629 + 104729 * ((k : Int) + 1)) * 48271) (b := 2147483629) (by decide)
    omega
  have m1 : mulOk 104729 ((k : Int) + 1) = true := mulOk_l (by decide)
  have m2 : ∀ x : Int, mulOk x 48271 = true := fun x => mulOk_r (by decide)
  have m3 : ∀ c : Bool, mulOk z (if c = true then 1 else 0) = true := fun c => mulOk_r (by cases c <;> decide)
  have m4 : mulOk w w = true := mulOk_r (by omega)
  refine ⟨z * (if decide (1000000000000000000 ≤ z) = true then 1 else 0), (w * w).fmod 2147483629, ⟨?_, Int.fmod_nonneg_of_pos _ (by decide), ?_⟩, ?_⟩
  · split <;> omega
  · have := Int.fmod_lt_of_pos (w * w) (b := 2147483629) (by decide)
    omega
  · refine (run_rt (fn := finK) (d := .ref 1) (h' := [.fro ns, .lst [.int (z * (if decide (1000000000000000000 ≤ z) = true then 1 else 0)), .int ((w * w).fmod 2147483629)]]) rfl ?_).trans ?_
    · unfold b_poolB
      refine seq_set ez ?_
      refine seq_set (d := .int w) (h1 := [.fro ns]) ?_ ?_
      · rw [← hw]
        generalize (k : Int) = kk at *
        simp [startE, m1, m2]
      · have m3' := m3 (decide (1000000000000000000 ≤ z))
        have m3'' : mulOk z (if 1000000000000000000 ≤ z then 1 else 0) = true := by simpa using m3'
        generalize (k : Int) = kk at *
        simp [startE, pow18, m3'', m4]
    · rfl
end Drw
end
section
set_option maxRecDepth 100000
set_option maxHeartbeats 4000000
namespace K81
open PySem L2 Lad
abbrev rowsV : Val := .tup [.tup [.int 0, .tup [.int 1, .int 0], .non, .non], .tup [.int 1, .non, .non, .non]]
abbrev BV (hi : Int) : Val := .obj 30 [0, 1, 2, 3, 4, 5] [.int 0, .int hi, rowsV, .int 0, .int 1, .int 0]
theorem alike22 (ns : List Int) : c_are_alike [BV 22, BV 23, .int 0] [.fro ns] = .ok (.bl false) [.fro ns] := by
  kernel_rfl
end K81
end
section
set_option maxRecDepth 10000
set_option maxHeartbeats 1000000
namespace Lad
open PySem L2
/-- the cells of a law: max(1, min(len(script), K)) of them -/
theorem cells (ns : List Int) (K : Nat) (h1K : 1 ≤ K) (hK : K ≤ 63) (e : En) (e0 : e[0]? = some (some (.ref 0))) : ∃ m : Nat, m ≤ K ∧ iRng1V (aCons (eCB gMax2 (aCons (eC (.int 1)) (aCons (eCB gMin2 (aCons (eIt gLen (eVar 0)) (aCons (eC (.int K)) aNil))) aNil))) aNil) e [.fro ns] = .ok (srcFix (rangeV 0 m)) [.fro ns] := by
  have e1 : eIt gLen (eVar 0) e [.fro ns] = .ok (.int ns.length) [.fro ns] := by simp [e0, lstAt]
  obtain ⟨m, m1, m3, e2⟩ : ∃ m : Nat, 1 ≤ m ∧ m ≤ K ∧ eCB gMax2 (aCons (eC (.int 1)) (aCons (eCB gMin2 (aCons (eIt gLen (eVar 0)) (aCons (eC (.int K)) aNil))) aNil)) e [.fro ns] = .ok (.int m) [.fro ns] := by
    have e3 : ∃ x : Nat, x ≤ K ∧ eCB gMin2 (aCons (eIt gLen (eVar 0)) (aCons (eC (.int K)) aNil)) e [.fro ns] = .ok (.int x) [.fro ns] := by
      rw [ap_cb, acons_ok e1 (acons_ok (d := .int K) rfl rfl), ap_bindOk]
      by_cases h3 : K < ns.length
      · refine ⟨K, by omega, ?_⟩
        show opt (some (Val.int (if (K : Int) < (ns.length : Int) then K else (ns.length : Int)))) _ = _
        rw [if_pos (by omega)]; rfl
      · refine ⟨ns.length, by omega, ?_⟩
        show opt (some (Val.int (if (K : Int) < (ns.length : Int) then K else (ns.length : Int)))) _ = _
        rw [if_neg (by omega)]; rfl
    obtain ⟨x, x3, ex⟩ := e3
    rw [ap_cb, acons_ok (d := .int 1) rfl (acons_ok ex rfl), ap_bindOk]
    by_cases h1 : 1 < x
    · refine ⟨x, by omega, x3, ?_⟩
      show opt (some (Val.int (if (x : Int) > 1 then (x : Int) else 1))) _ = _
      rw [if_pos (by omega)]; rfl
    · refine ⟨1, by omega, by omega, ?_⟩
      show opt (some (Val.int (if (x : Int) > 1 then (x : Int) else 1))) _ = _
      rw [if_neg (by omega)]; rfl
  refine ⟨m, m3, ?_⟩
  unfold iRng1V
  rw [acons_ok e2 rfl, ap_bindOk]
  show (if rngOk (m : Int) = true then Res.ok (srcFix (rangeV 0 (m : Int).toNat)) [.fro ns] else Res.stuck) = _
  rw [if_pos (by unfold rngOk; exact decide_eq_true ⟨by omega, by omega⟩)]
  rfl
/-- each cell leaves the heap as it was, but for what is younger -/
theorem cell_loop (ns : List Int) (K : Nat) (h1K : 1 ≤ K) (hK : K ≤ 63) {dead : List Nat} {b : Val → En → Option En} {body : En → Hea → SRes} {e : En} (e0 : e[0]? = some (some (.ref 0)))
    (w : ∀ k : Nat, k < K → ∃ e1 e2 h2, b (.int k) e = some e1 ∧ body e1 [.fro ns] = .nx e2 h2 ∧ gcN dead 1 e2 h2 = (e, [.fro ns])) :
    sForK dead (iRng1V (aCons (eCB gMax2 (aCons (eC (.int 1)) (aCons (eCB gMin2 (aCons (eIt gLen (eVar 0)) (aCons (eC (.int K)) aNil))) aNil))) aNil)) b body e [.fro ns] = .nx e [.fro ns] := by
  obtain ⟨m, hm, em⟩ := cells ns K h1K hK e e0
  rw [forK_eq em]
  refine forKL_const fun v hv => ?_
  unfold rangeV at hv
  obtain ⟨k, hk, rfl⟩ := List.mem_map.mp hv
  rw [List.mem_range] at hk
  rw [Int.zero_add]
  exact w k (by omega)
end Lad
end
section
set_option maxRecDepth 100000
set_option maxHeartbeats 4000000
namespace K81
open PySem L2 Lad
def rst : En → Hea → SRes := (sSeq (sSet 4 (eLst (lDisp (aCons (eTup (aCons (eC (.int 0)) (aCons (eTup (aCons (eC (.int 1)) (aCons (eUn oNeg (eC (.int 1))) aNil))) (aCons (eTup (aCons (eC (.int 0)) (aCons (eC (.int 0)) aNil))) (aCons (eTup (aCons (eUn oNeg (eC (.int 1))) (aCons (eC (.int 1)) aNil))) aNil))))) aNil))))
  (sSeq (sPar [5, 6] (aCons (eMakeKd [0, 1, 2, 3, 4, 5, 6] [(.int 0), (.int 1), (.int 0)] 3 0 30 c_Book___init__ (aCons (eVar 3) (aCons (eBin oAdd (eVar 3) (eC (.int 3))) (aCons (eVar 4) aNil))) aNil) (aCons (eMakeKd [0, 1, 2, 3, 4, 5, 6] [(.int 0), (.int 1), (.int 0)] 3 0 30 c_Book___init__ (aCons (eBin oAdd (eVar 3) (eC (.int 1))) (aCons (eBin oAdd (eVar 3) (eC (.int 5))) (aCons (eVar 4) aNil))) aNil) aNil)))
  (sSeq (sForK [7, 8] (iRng1V (aCons (eC (.int 2)) aNil)) (gN 7) l_law_1)
  (sIf (eUn oNot (eCall0 c__law_known)) (sRet (eC (.bl false))) sNil))))
theorem q_rst : l_law_2 = sSeq (sSet 2 (eCall c__law_pool (aCons (eVar 0) (aCons (eVar 1) aNil)))) (sSeq (sSet 3 (eBin oAdd (eC (.int 1)) (eCall c__law_draw (aCons (eVar 2) (aCons (eC (.int 4)) aNil))))) rst) := rfl
abbrev EC (k low : Int) : En := [some (.ref 0), some (.int k), some (.ref 1), some (.int low), none, none, none, none, none]
abbrev rowW : Val := .tup [.int 0, .tup [.int 1, .int (-1)], .tup [.int 0, .int 0], .tup [.int (-1), .int 1]]
abbrev BW (low high : Int) : Val := .obj 30 [0, 1, 2, 3, 4, 5] [.int low, .int high, .tup [rowW], .int 0, .int 1, .int 0]
abbrev EF (k low : Int) : En := [some (.ref 0), some (.int k), some (.ref 1), some (.int low), some (.lst [rowW]), some (BW low (low + 3)), some (BW (low + 1) (low + 5)), none, none]
theorem rest1 (ns : List Int) (a b k : Int) : rst (EC k (1)) (Hp2 ns a b []) = .nx (EF k (1)) (Hp2 ns a b []) := by
  kernel_rfl
theorem rest2 (ns : List Int) (a b k : Int) : rst (EC k (2)) (Hp2 ns a b []) = .nx (EF k (2)) (Hp2 ns a b []) := by
  kernel_rfl
theorem rest3 (ns : List Int) (a b k : Int) : rst (EC k (3)) (Hp2 ns a b []) = .nx (EF k (3)) (Hp2 ns a b []) := by
  kernel_rfl
theorem rest4 (ns : List Int) (a b k : Int) : rst (EC k (4)) (Hp2 ns a b []) = .nx (EF k (4)) (Hp2 ns a b []) := by
  kernel_rfl
end K81
end
section
set_option maxRecDepth 100000
set_option maxHeartbeats 4000000
namespace K81
open PySem L2 Lad
theorem q_pool : c__law_pool = Drw.c_poolB := rfl
theorem q_draw : c__law_draw = Drw.c__law_draw := rfl
theorem body (ns : List Int) (k : Nat) (hk : k < 64) : ∃ e2 h2, l_law_2 [some (.ref 0), some (.int k), none, none, none, none, none, none, none] [.fro ns] = .nx e2 h2 ∧ gcN [1, 2, 3, 4, 5, 6, 7, 8] 1 e2 h2 = ([some (.ref 0), none, none, none, none, none, none, none, none], [.fro ns]) := by
  obtain ⟨a0, b0, P0, e0⟩ := Drw.poolB_ok ns k hk
  obtain ⟨r, a1, b1, r0, r4, P1, ed⟩ := Drw.draw_ok ns [] P0 (m := 4) (by decide) (by decide)
  have s1 : eCall c__law_pool (aCons (eVar 0) (aCons (eVar 1) aNil)) [some (.ref 0), some (.int k), none, none, none, none, none, none, none] [.fro ns] = .ok (.ref 1) (Hp2 ns a0 b0 []) := call_eq (ds := [.ref 0, .int k]) (h1 := [.fro ns]) rfl (by rw [q_pool]; exact e0)
  have s2 : eBin oAdd (eC (.int 1)) (eCall c__law_draw (aCons (eVar 2) (aCons (eC (.int 4)) aNil))) [some (.ref 0), some (.int k), some (.ref 1), none, none, none, none, none, none] (Hp2 ns a0 b0 []) = .ok (.int (1 + r)) (Hp2 ns a1 b1 []) :=
    bin_ok (d := .int 1) (d2 := .int r) (h1 := Hp2 ns a0 b0 []) (h2 := Hp2 ns a1 b1 []) rfl (call_eq (ds := [.ref 1, .int 4]) (h1 := Hp2 ns a0 b0 []) rfl (by rw [q_draw]; exact ed)) rfl
  have go : ∀ low : Int, 1 + r = low → rst (EC k low) (Hp2 ns a1 b1 []) = .nx (EF k low) (Hp2 ns a1 b1 []) → ∃ e2 h2, l_law_2 [some (.ref 0), some (.int k), none, none, none, none, none, none, none] [.fro ns] = .nx e2 h2 ∧ gcN [1, 2, 3, 4, 5, 6, 7, 8] 1 e2 h2 = ([some (.ref 0), none, none, none, none, none, none, none, none], [.fro ns]) := fun low e q => by
    rw [e] at s2
    refine ⟨EF k low, Hp2 ns a1 b1 [], ?_, rfl⟩
    rw [q_rst]
    exact seq_set s1 (seq_set s2 q)
  have cs : r = 0 ∨ r = 1 ∨ r = 2 ∨ r = 3 := by omega
  rcases cs with rfl | rfl | rfl | rfl
  · exact go 1 rfl (rest1 ns a1 b1 k)
  · exact go 2 rfl (rest2 ns a1 b1 k)
  · exact go 3 rfl (rest3 ns a1 b1 k)
  · exact go 4 rfl (rest4 ns a1 b1 k)
end K81
end
section
set_option maxRecDepth 100000
set_option maxHeartbeats 4000000
namespace K81
open PySem L2 Lad
abbrev rowsL : Val := .lst [.tup [.int 0, .tup [.int 1, .int 0], .non, .non], .tup [.int 1, .non, .non, .non]]
theorem made22 (ns : List Int) : sPar [1, 2] (aCons (eMakeKd [0, 1, 2, 3, 4, 5, 6] [(.int 0), (.int 1), (.int 0)] 3 0 30 c_Book___init__ (aCons (eC (.int 0)) (aCons (eC (.int 22)) (aCons (eVar 0) aNil))) aNil) (aCons (eMakeKd [0, 1, 2, 3, 4, 5, 6] [(.int 0), (.int 1), (.int 0)] 3 0 30 c_Book___init__ (aCons (eC (.int 0)) (aCons (eC (.int 23)) (aCons (eVar 0) aNil))) aNil) aNil)) [some rowsL, none, none, none] [.fro ns] = .nx [some rowsL, some (BV 22), some (BV 23), none] [.fro ns] := by
  kernel_rfl
theorem made12 (ns : List Int) (hi : Int) (h : hi = 12 ∨ hi = 13) (x1 x2 x3 : Option Val) : eMakeKd [0, 1, 2, 3, 4, 5, 6] [(.int 0), (.int 1), (.int 0)] 3 0 30 c_Book___init__ (aCons (eC (.int 0)) (aCons (eC (.int hi)) (aCons (eVar 0) aNil))) aNil [some rowsL, x1, x2, x3] [.fro ns] = .ok (BV hi) [.fro ns] := by
  rcases h with rfl | rfl
  · kernel_rfl
  · kernel_rfl
end K81
end
section
set_option maxRecDepth 10000
set_option maxHeartbeats 1000000
namespace Bk
open PySem L2 Lad
@[simp] theorem fld_bk (h : Hea) (n : Nat) (f : En → Hea → Res Val) (e : En) : eFld (Nat.beq 30) n f e h = (f e h).bind fun o h1 => match insOf h1 o with
  | some (c, fs) => if Nat.beq 30 c = true then (match lkF fs n with
    | some d => .ok d h1
    | none => .stuck) else .stuck
  | none => .stuck := rfl
@[simp] theorem ap_aug (i : Nat) (o : Int → Int → Int) (f : En → Hea → Res Val) (e : En) (h : Hea) : sAug i o f e h = match e[i]? with
  | some (some (.int x)) => ofR (f e h) e fun d h1 => match d with
    | .int y => .nx (e.set i (some (.int (o x y)))) h1
    | _ => .stuck
  | _ => .stuck := rfl
end Bk
end
section
set_option maxRecDepth 10000
set_option maxHeartbeats 1000000
namespace Bk
open PySem L2 Lad
@[simp] theorem ap_meth (c n : Nat) (cf : List Val → Hea → Res Val) (f : En → Hea → Res Val) (g : En → Hea → Res (List Val)) (e : En) (h : Hea) : eMeth c n cf f g e h = (f e h).bind fun o h1 => match insOf h1 o with
  | some (c', fs) => if c' = c ∧ noF fs n = true then (g e h1).bind fun ds h2 => cf (o :: ds) h2 else .stuck
  | none => .stuck := rfl
end Bk
end
section
set_option maxRecDepth 10000
set_option maxHeartbeats 1000000
namespace Bk
open PySem L2 Lad
theorem meth_of {c n : Nat} {cf : List Val → Hea → Res Val} {f : En → Hea → Res Val} {g : En → Hea → Res (List Val)} {e : En} {h h1 h2 : Hea} {B : Val} {fs : List (Nat × Val)} {ds : List Val} {r : Res Val} (a : f e h = .ok B h1) (i : insOf h1 B = some (c, fs)) (n0 : noF fs n = true) (g0 : g e h1 = .ok ds h2) (q : cf (B :: ds) h2 = r) : eMeth c n cf f g e h = r := by
  unfold eMeth; rw [a, ap_bindOk, i]
  show (if c = c ∧ noF fs n = true then _ else Res.stuck) = r
  rw [if_pos ⟨rfl, n0⟩, g0]; exact q
theorem forL_cons {b : Val → En → Option En} {body : En → Hea → SRes} {v : Val} {vs : List Val} {e e1 e2 : En} {h h2 : Hea} {r : SRes} (a : b v e = some e1) (c : body e1 h = .nx e2 h2) (d : forL b body vs e2 h2 = r) : forL b body (v :: vs) e h = r := by
  unfold forL; simp only [a, c]; exact d
end Bk
end
section
set_option maxRecDepth 10000
set_option maxHeartbeats 1000000
namespace Lad
open PySem L2
end Lad
end
section
set_option maxRecDepth 10000
set_option maxHeartbeats 1000000
namespace Bk
open PySem L2 Lad
end Bk
end
section
set_option maxRecDepth 10000
set_option maxHeartbeats 1000000
namespace Bk
open PySem L2 Lad
theorem mapO_id {f : Val → Option Val} : ∀ {xs : List Val}, (∀ v ∈ xs, f v = some v) → mapO f xs = some xs
  | [], _ => rfl
  | x :: xs, w => by
    unfold mapO
    rw [w x List.mem_cons_self, mapO_id fun v hv => w v (List.mem_cons_of_mem _ hv)]
end Bk
end
section
set_option maxRecDepth 10000
set_option maxHeartbeats 1000000
namespace Sp
open PySem L2 Lad Bk
end Sp
end
section
set_option maxRecDepth 10000
set_option maxHeartbeats 1000000
namespace Sp
open PySem L2 Lad Bk
theorem seq_rt {s1 s2 : En → Hea → SRes} {e : En} {h h1 : Hea} {d : Val} (a : s1 e h = .rt d h1) : sSeq s1 s2 e h = .rt d h1 := by rw [ap_seq, a]
end Sp
end
section
set_option maxRecDepth 10000
namespace Lad
open PySem L2
def noB : Nat → Val → Bool
  | _, .non => true
  | _, .int _ => true
  | _, .str x => PyData.strOk x
  | n + 1, .tup xs => xs.all (noB n)
  | n + 1, .lst xs => xs.all (noB n)
  | _, _ => false
theorem mapO_all {α β : Type} {f : α → Option β} {P : β → Prop} : ∀ {xs : List α}, (∀ x ∈ xs, ∃ y, f x = some y ∧ P y) → ∃ ys, mapO f xs = some ys ∧ ∀ y ∈ ys, P y
  | [], _ => ⟨[], rfl, fun _ h => nomatch h⟩
  | x :: xs, w => by
    obtain ⟨y, e, p⟩ := w x List.mem_cons_self
    obtain ⟨ys, es, ps⟩ := mapO_all (xs := xs) fun z hz => w z (List.mem_cons_of_mem _ hz)
    refine ⟨y :: ys, by simp only [mapO, e, es], fun z hz => ?_⟩
    rcases List.mem_cons.mp hz with rfl | hz
    · exact p
    · exact ps z hz
theorem canAll : ∀ {ys : List PyData}, (∀ y ∈ ys, y.canLay0 = true) → PyData.canLayAll0 ys = true
  | [], _ => by unfold PyData.canLayAll0; rfl
  | y :: ys, w => by
    unfold PyData.canLayAll0
    rw [w y List.mem_cons_self, canAll fun z hz => w z (List.mem_cons_of_mem _ hz)]
    rfl
theorem depAll {n : Nat} : ∀ {ys : List PyData}, (∀ y ∈ ys, y.depth ≤ n) → PyData.depthAll ys ≤ n
  | [], _ => by unfold PyData.depthAll; omega
  | y :: ys, w => by
    unfold PyData.depthAll
    have h1 := w y List.mem_cons_self
    have h2 := depAll (ys := ys) fun z hz => w z (List.mem_cons_of_mem _ hz)
    omega
theorem toD_spec (h : Hea) : ∀ (n m : Nat) (d : Val), n ≤ m → noB n d = true → ∃ p, toD m h d = some p ∧ p.canLay0 = true ∧ p.depth ≤ n + 1
  | n, m, .non, _, _ => ⟨.none, by unfold toD; rfl, by simp [PyData.canLay0], by simp [PyData.depth]⟩
  | n, m, .int i, _, _ => ⟨.int i, by unfold toD; rfl, by simp [PyData.canLay0], by simp [PyData.depth]⟩
  | n, m, .str x, _, e => ⟨.str x, by unfold toD; rfl, by
    have : PyData.strOk x = true := by cases n <;> exact e
    simpa [PyData.canLay0] using this, by simp [PyData.depth]⟩
  | n + 1, m + 1, .tup xs, hm, e => by
    have hx : ∀ x ∈ xs, noB n x = true := fun x hx => List.all_eq_true.mp e x hx
    obtain ⟨ys, es, ps⟩ := mapO_all (f := toD m h) (P := fun p => p.canLay0 = true ∧ p.depth ≤ n + 1) (xs := xs) fun x hx' => toD_spec h n m x (by omega) (hx x hx')
    refine ⟨.tuple ys, by unfold toD; rw [es], ?_, ?_⟩
    · unfold PyData.canLay0; exact canAll fun y hy => (ps y hy).1
    · unfold PyData.depth
      have := depAll fun y hy => (ps y hy).2
      omega
  | n + 1, m + 1, .lst xs, hm, e => by
    have hx : ∀ x ∈ xs, noB n x = true := fun x hx => List.all_eq_true.mp e x hx
    obtain ⟨ys, es, ps⟩ := mapO_all (f := toD m h) (P := fun p => p.canLay0 = true ∧ p.depth ≤ n + 1) (xs := xs) fun x hx' => toD_spec h n m x (by omega) (hx x hx')
    refine ⟨.list ys, by unfold toD; rw [es], ?_, ?_⟩
    · unfold PyData.canLay0; exact canAll fun y hy => (ps y hy).1
    · unfold PyData.depth
      have := depAll fun y hy => (ps y hy).2
      omega
  | 0, _, .tup _, _, e => by cases e
  | 0, _, .lst _, _, e => by cases e
  | 0, _, .bl _, _, e => by cases e
  | 0, _, .dic _ _ _, _, e => by cases e
  | 0, _, .obj _ _ _, _, e => by cases e
  | 0, _, .ref _, _, e => by cases e
  | 0, _, .exn _ _, _, e => by cases e
  | _ + 1, _, .bl _, _, e => by cases e
  | _ + 1, _, .dic _ _ _, _, e => by cases e
  | _ + 1, _, .obj _ _ _, _, e => by cases e
  | _ + 1, _, .ref _, _, e => by cases e
  | _ + 1, _, .exn _ _, _, e => by cases e
  | n + 1, 0, .tup _, hm, _ => by omega
  | n + 1, 0, .lst _, hm, _ => by omega
theorem mapO_inv {α β : Type} {f : α → Option β} : ∀ {xs : List α} {ys : List β}, mapO f xs = some ys → xs.length = ys.length ∧ ∀ i (h1 : i < xs.length) (h2 : i < ys.length), f xs[i] = some ys[i]
  | [], ys, e => by cases e; exact ⟨rfl, fun i h => by simp at h⟩
  | x :: xs, ys, e => by
    unfold mapO at e
    split at e
    · rename_i y zs e1 e2
      cases e
      obtain ⟨l, w⟩ := mapO_inv e2
      refine ⟨by simp [l], fun i h1 h2 => ?_⟩
      cases i with
      | zero => exact e1
      | succ i => exact w i (by simpa using h1) (by simpa using h2)
    · cases e
theorem eqvAll_iff {f : Val → Option PyData} {P : Val → Prop} (w : ∀ x, P x → ∀ y, P y → ∀ p q, f x = some p → f y = some q → (PyData.eqv p q = true ↔ x = y)) : ∀ {xs ys : List Val} {ps qs : List PyData}, (∀ x ∈ xs, P x) → (∀ y ∈ ys, P y) → mapO f xs = some ps → mapO f ys = some qs → (PyData.eqvAll ps qs = true ↔ xs = ys)
  | [], [], _, _, _, _, e1, e2 => by cases e1; cases e2; unfold PyData.eqvAll; simp
  | [], y :: ys, _, qs, _, _, e1, e2 => by
    cases e1
    have := (mapO_inv e2).1
    cases qs with
    | nil => simp at this
    | cons q qs => unfold PyData.eqvAll; simp
  | x :: xs, [], ps, _, _, _, e1, e2 => by
    cases e2
    have := (mapO_inv e1).1
    cases ps with
    | nil => simp at this
    | cons q qs => unfold PyData.eqvAll; simp
  | x :: xs, y :: ys, ps, qs, hx, hy, e1, e2 => by
    unfold mapO at e1 e2
    split at e1
    · rename_i p ps' a1 a2
      cases e1
      split at e2
      · rename_i q qs' b1 b2
        cases e2
        have i1 := w x (hx x List.mem_cons_self) y (hy y List.mem_cons_self) p q a1 b1
        have i2 := eqvAll_iff w (fun z hz => hx z (List.mem_cons_of_mem _ hz)) (fun z hz => hy z (List.mem_cons_of_mem _ hz)) a2 b2
        unfold PyData.eqvAll
        rw [Bool.and_eq_true, i1, i2, List.cons.injEq]
      · cases e2
    · cases e1
theorem toD_inv_tup {m : Nat} {h : Hea} {xs : List Val} {p : PyData} (e : toD m h (.tup xs) = some p) : ∃ n ps, m = n + 1 ∧ mapO (toD n h) xs = some ps ∧ p = .tuple ps := by
  cases m with
  | zero => unfold toD at e; cases e
  | succ n =>
    unfold toD at e
    split at e
    · rename_i ys e1; cases e; exact ⟨n, ys, rfl, e1, rfl⟩
    · cases e
theorem toD_inv_lst {m : Nat} {h : Hea} {xs : List Val} {p : PyData} (e : toD m h (.lst xs) = some p) : ∃ n ps, m = n + 1 ∧ mapO (toD n h) xs = some ps ∧ p = .list ps := by
  cases m with
  | zero => unfold toD at e; cases e
  | succ n =>
    unfold toD at e
    split at e
    · rename_i ys e1; cases e; exact ⟨n, ys, rfl, e1, rfl⟩
    · cases e
theorem toD_int {m : Nat} {h : Hea} {i : Int} {p : PyData} (e : toD m h (.int i) = some p) : p = .int i := by unfold toD at e; cases m <;> (cases e; rfl)
theorem toD_non {m : Nat} {h : Hea} {p : PyData} (e : toD m h .non = some p) : p = .none := by unfold toD at e; cases m <;> (cases e; rfl)
theorem toD_strV {m : Nat} {h : Hea} {x : Str} {p : PyData} (e : toD m h (.str x) = some p) : p = .str x := by unfold toD at e; cases m <;> (cases e; rfl)
theorem eqv_iff (h : Hea) : ∀ (n m : Nat) (d d' : Val), noB n d = true → noB n d' = true → ∀ p q, toD m h d = some p → toD m h d' = some q → (PyData.eqv p q = true ↔ d = d') := by
  intro n
  induction n with
  | zero =>
    intro m d d' hd hd' p q e1 e2
    cases d <;> (first | (cases hd; done) | skip) <;> cases d' <;> (first | (cases hd'; done) | skip)
    all_goals (first | rw [toD_int e1] | rw [toD_non e1] | rw [toD_strV e1]) <;> (first | rw [toD_int e2] | rw [toD_non e2] | rw [toD_strV e2]) <;> simp [PyData.eqv]
  | succ n ih =>
    intro m d d' hd hd' p q e1 e2
    cases d <;> (first | (cases hd; done) | skip) <;> cases d' <;> (first | (cases hd'; done) | skip)
    case tup.tup xs ys =>
      obtain ⟨m1, ps, hm, a1, rfl⟩ := toD_inv_tup e1
      obtain ⟨m2, qs, hm2, a2, rfl⟩ := toD_inv_tup e2
      have : m1 = m2 := by omega
      subst this
      unfold PyData.eqv
      rw [eqvAll_iff (P := fun x => noB n x = true) (fun x hx y hy p q e1 e2 => ih m1 x y hx hy p q e1 e2) (fun x hx => List.all_eq_true.mp hd x hx) (fun x hx => List.all_eq_true.mp hd' x hx) a1 a2]
      simp
    case lst.lst xs ys =>
      obtain ⟨m1, ps, hm, a1, rfl⟩ := toD_inv_lst e1
      obtain ⟨m2, qs, hm2, a2, rfl⟩ := toD_inv_lst e2
      have : m1 = m2 := by omega
      subst this
      unfold PyData.eqv
      rw [eqvAll_iff (P := fun x => noB n x = true) (fun x hx y hy p q e1 e2 => ih m1 x y hx hy p q e1 e2) (fun x hx => List.all_eq_true.mp hd x hx) (fun x hx => List.all_eq_true.mp hd' x hx) a1 a2]
      simp
    all_goals (first | rw [toD_int e1] | rw [toD_non e1] | rw [toD_strV e1] | (obtain ⟨_, _, _, _, rfl⟩ := toD_inv_tup e1) | (obtain ⟨_, _, _, _, rfl⟩ := toD_inv_lst e1)) <;> (first | rw [toD_int e2] | rw [toD_non e2] | rw [toD_strV e2] | (obtain ⟨_, _, _, _, rfl⟩ := toD_inv_tup e2) | (obtain ⟨_, _, _, _, rfl⟩ := toD_inv_lst e2)) <;> simp [PyData.eqv]
theorem shaped_of {p : PyData} {n : Nat} (h1 : p.canLay0 = true) (h2 : p.depth ≤ n + 1) (hn : n ≤ 60) : SeqAt.shaped p = true := by
  unfold SeqAt.shaped
  rw [h1, decide_eq_true (by omega)]
  rfl
/-- plain data are compared as data -/
theorem eqB_data (h : Hea) (n : Nat) (hn : n ≤ 60) {d d' : Val} (hd : noB n d = true) (hd' : noB n d' = true) : ∃ c : Bool, eqB h d d' = some c ∧ (c = true ↔ d = d') := by
  obtain ⟨p, e1, c1, l1⟩ := toD_spec h n 60 d hn hd
  obtain ⟨q, e2, c2, l2⟩ := toD_spec h n 60 d' hn hd'
  refine ⟨PyData.eqv p q, ?_, eqv_iff h n 60 d d' hd hd' p q e1 e2⟩
  unfold eqB
  rw [e1, e2]
  dsimp only
  rw [if_pos ⟨shaped_of c1 l1 hn, shaped_of c2 l2 hn⟩]
theorem ne_eq (h : Hea) (n : Nat) {d : Val} (hd : noB n d = true) (hn : n ≤ 60 := by decide) : oNe h d d = some (.bl false) := by
  obtain ⟨c, e, w⟩ := eqB_data h n hn hd hd
  rw [op_ne, e, w.mpr rfl]; rfl
end Lad
end
section
set_option maxRecDepth 10000
set_option maxHeartbeats 1000000
namespace Sp
open PySem L2 Lad Bk
end Sp
end
section
set_option maxRecDepth 10000
set_option maxHeartbeats 1000000
namespace Sp
open PySem L2 Lad Bk
end Sp
end
section
set_option maxRecDepth 10000
set_option maxHeartbeats 1000000
namespace Lad
open PySem L2
section
variable {α β : Type} {f g f1 f2 f3 : En → Hea → Res Val} {s s1 s2 : En → Hea → SRes} {l l2 : En → Hea → Res (List Val)} {e e1 : En} {h h1 h2 : Hea} {b : Val → En → Option En} {src : En → Hea → Res Src} {xs ys ds : List Val} {dead own is : List Nat} {d d1 d2 x y v : Val} {c c' n m i j : Nat} {o o' : Hea → Val → Val → Option Val} {cf : List Val → Hea → Res Val} {ok : Nat → Bool} {ng t : Bool} {fs : List (Nat × Val)} {kvs : List (Val × Val)} {ks vs : List Val} {z w : Int} {q : Str} {gi : List Val → Option Val} {gc : Hea → List Val → Option Val}
theorem v00 {a : α} {k : α → Hea → Res β} : (Res.ok a h).bind k = k a h := rfl
def B2 (o : Hea → Val → Val → Option Val) (x y : Val) (h : Hea) : Res Val := opt (o h x y) h
def B1 (o : Hea → Val → Val → Option Val) (f2 : En → Hea → Res Val) (e : En) (x : Val) (h : Hea) : Res Val := (f2 e h).bind (B2 o x)
theorem v10 : B1 o f2 e x h = (f2 e h).bind (B2 o x) := rfl
def A1 (f2 : En → Hea → Res Val) (e : En) (x : Val) (h : Hea) : Res Val := match x with | .bl true => f2 e h | .bl false => .ok (.bl false) h | _ => .stuck
def I1 (f2 f3 : En → Hea → Res Val) (e : En) (x : Val) (h : Hea) : Res Val := match x with | .bl true => f2 e h | .bl false => f3 e h | _ => .stuck
theorem v14 : eAnd f1 f2 e h = (f1 e h).bind (A1 f2 e) := rfl
theorem v15 : A1 f2 e (.bl true) h = f2 e h := rfl
theorem v16 : A1 f2 e (.bl false) h = .ok (.bl false) h := rfl
def M3 (cf : List Val → Hea → Res Val) (d : Val) (ds : List Val) (h : Hea) : Res Val := cf (d :: ds) h
def M2 (o : Option (Nat × List (Nat × Val))) (d : Val) (c n : Nat) (cf : List Val → Hea → Res Val) (l : En → Hea → Res (List Val)) (e : En) (h : Hea) : Res Val := match o with | some (c', fs) => if c' = c ∧ noF fs n = true then (l e h).bind (M3 cf d) else .stuck | none => .stuck
def J3 (o : Option (Nat × List (Nat × Val))) (c : Nat) (ng : Bool) (cf : List Val → Hea → Res Val) (x y : Val) (h : Hea) : Res Val := match o with | some (c', _) => if c' = c then blR ng (cf [y, x] h) else .stuck | none => .stuck
def J2 (c : Nat) (ng : Bool) (cf : List Val → Hea → Res Val) (x y : Val) (h : Hea) : Res Val := J3 (insOf h y) c ng cf x y h
def J1 (c : Nat) (ng : Bool) (cf : List Val → Hea → Res Val) (f2 : En → Hea → Res Val) (e : En) (x : Val) (h : Hea) : Res Val := (f2 e h).bind (J2 c ng cf x)
def P4 (o : Option Ob) (i : Nat) (y : Val) (h : Hea) : Res Val := match o with | some (.lst xs) => if xs.length < 16777216 then .ok .non (h.set i (.lst (xs ++ [y]))) else .stuck | _ => .stuck
def P3 (i : Nat) (y : Val) (h : Hea) : Res Val := P4 h[i]? i y h
def P2 (o : Option Ob) (g : En → Hea → Res Val) (e : En) (i : Nat) (h : Hea) : Res Val := match o with | some (.lst _) => (g e h).bind (P3 i) | _ => .stuck
def P1 (g : En → Hea → Res Val) (e : En) (o : Val) (h : Hea) : Res Val := match o with | .ref i => P2 h[i]? g e i h | _ => .stuck
def tQ (o : Option Bool) (s : En → Hea → SRes) (r : List ((Nat → Option Bool) × (En → Hea → SRes))) (i c : Nat) (d : Val) (e1 : En) (h1 : Hea) : SRes := match o with | some true => suiteEnd i h1 (s (e1.set i (some (.exn c d))) h1) | some false => sTryM.tryMs r i c d e1 h1 | none => .stuck
def t1 (r : SRes) (sub : Nat → Option Bool) (i : Nat) (s : En → Hea → SRes) : SRes := match r with | .exc c d e1 h1 => tQ (sub c) s [] i c d e1 h1 | r => r
end
/-- a new thing that a call makes and gives back -/
theorem fin_new {h h' : Hea} {d d' : Val} (hl : Nat.beq h'.length h.length = false) (s : shut h.length h.length h' = some h) (f : frz 40 h.length h' d = some d') : fin h d h' = .ok d' h := by
  unfold fin
  rw [if_neg (fun e => by rw [e] at hl; simp at hl), s, f]
end Lad
end
section
set_option maxRecDepth 10000
set_option maxHeartbeats 1000000
namespace Lad
open PySem L2
end Lad
end
section
set_option maxRecDepth 100000
set_option maxHeartbeats 1000000
namespace Wy
open PySem L2 Lad Bk
end Wy
end
section
set_option maxRecDepth 100000
set_option maxHeartbeats 1000000
namespace Wy
open PySem L2 Lad Bk
end Wy
end
section
set_option maxRecDepth 100000
set_option maxHeartbeats 1000000
namespace Wy
open PySem L2 Lad Bk
end Wy
end
section
set_option maxRecDepth 100000
set_option maxHeartbeats 1000000
namespace B6
open PySem L2 Lad Bk
theorem at_end (h : Hea) (o : Ob) : (h ++ [o])[h.length]? = some o := by simp
theorem set_end (h : Hea) (o o' : Ob) : (h ++ [o]).set h.length o' = h ++ [o'] := by simp
end B6
end
section
set_option maxRecDepth 100000
set_option maxHeartbeats 1000000
namespace Wy
open PySem L2 Lad Bk B6
end Wy
end
section
set_option maxRecDepth 100000
set_option maxHeartbeats 1000000
namespace Cl
open PySem L2 Lad Bk Wy
mutual
theorem und_mono {n m : Nat} (l : n ≤ m) : ∀ v : Val, v.und n = true → v.und m = true
  | .tup xs, e => undL_mono l xs e
  | .lst xs, e => undL_mono l xs e
  | .dic _ _ vs, e => undL_mono l vs e
  | .obj _ _ vs, e => undL_mono l vs e
  | .ref i, e => by
    have e : Nat.blt i n = true := e
    show Nat.blt i m = true
    have := Nat.le_of_ble_eq_true e
    exact Nat.ble_eq_true_of_le (Nat.le_trans this l)
  | .exn _ d, e => und_mono l d e
  | .non, _ => rfl
  | .bl _, _ => rfl
  | .int _, _ => rfl
  | .str _, _ => rfl
theorem undL_mono {n m : Nat} (l : n ≤ m) : ∀ xs : List Val, undL n xs = true → undL m xs = true
  | [], _ => rfl
  | x :: xs, e => by
    have e : (x.und n && undL n xs) = true := e
    rw [Bool.and_eq_true] at e
    show (x.und m && undL m xs) = true
    rw [und_mono l x e.1, undL_mono l xs e.2]; rfl
end
theorem undKv_mono {n m : Nat} (l : n ≤ m) : ∀ xs : List (Val × Val), undKv n xs = true → undKv m xs = true
  | [], _ => rfl
  | (k, x) :: xs, e => by
    have e : (x.und n && undKv n xs) = true := e
    rw [Bool.and_eq_true] at e
    show (x.und m && undKv m xs) = true
    rw [und_mono l x e.1, undKv_mono l xs e.2]; rfl
theorem undFs_mono {n m : Nat} (l : n ≤ m) : ∀ xs : List (Nat × Val), undFs n xs = true → undFs m xs = true
  | [], _ => rfl
  | (k, x) :: xs, e => by
    have e : (x.und n && undFs n xs) = true := e
    rw [Bool.and_eq_true] at e
    show (x.und m && undFs m xs) = true
    rw [und_mono l x e.1, undFs_mono l xs e.2]; rfl
theorem ob_mono {n m : Nat} (l : n ≤ m) : ∀ o : Ob, o.und n = true → o.und m = true
  | .lst xs, e => undL_mono l xs e
  | .fro _, _ => rfl
  | .dcK kvs, e => undKv_mono l kvs e
  | .dcT kvs, e => undKv_mono l kvs e
  | .dcL kvs, e => undKv_mono l kvs e
  | .dcM kvs, e => undKv_mono l kvs e
  | .ins _ fs, e => undFs_mono l fs e
/-- the things of a heap name one another alone -/
def Cs (h : Hea) : Prop := ∀ o ∈ h, o.und h.length = true
theorem shut_of {n : Nat} : ∀ (h t : Hea), (∀ o ∈ h, o.und n = true) → shut n h.length (h ++ t) = some h
  | [], t, _ => by cases t <;> rfl
  | o :: h, t, w => by
    show (if o.und n = true then (shut n h.length (h ++ t)).map (o :: ·) else none) = _
    rw [if_pos (w o List.mem_cons_self), shut_of h t fun x hx => w x (List.mem_cons_of_mem _ hx)]
    rfl
theorem Cs.shut {h : Hea} (c : Cs h) (t : Hea) : shut h.length h.length (h ++ t) = some h := shut_of h t c
theorem Cs.app {h t : Hea} (c : Cs h) (w : ∀ o ∈ t, o.und (h.length + t.length) = true) : Cs (h ++ t) := fun o ho => by
  rw [List.length_append]
  rcases List.mem_append.mp ho with m | m
  · exact ob_mono (Nat.le_add_right _ _) o (c o m)
  · exact w o m
theorem lst_und {n : Nat} {xs : List Val} (w : ∀ v ∈ xs, v.und n = true) : (Ob.lst xs).und n = true := by
  show undL n xs = true
  induction xs with
  | nil => rfl
  | cons x xs ih =>
    show (x.und n && undL n xs) = true
    rw [w x List.mem_cons_self, ih fun v hv => w v (List.mem_cons_of_mem _ hv)]; rfl
theorem nbeq {h : Hea} {a : Ob} {t : Hea} : Nat.beq (h ++ a :: t).length h.length = false := by
  rw [List.length_append]
  cases q : Nat.beq (h.length + (a :: t).length) h.length with
  | false => rfl
  | true => exact absurd (Nat.eq_of_beq_eq_true q) (by simp)
/-- the end of a call at a closed heap -/
theorem Cs.fin {h : Hea} (c : Cs h) (a : Ob) (t : Hea) {d d' : Val} (f : frz 40 h.length (h ++ a :: t) d = some d') : Lad.fin h d (h ++ a :: t) = .ok d' h := fin_new nbeq (c.shut _) f
theorem for_cons {b : Val → En → Option En} {body : En → Hea → SRes} {v : Val} {vs : List Val} {e e1 e2 : En} {h h2 : Hea} (q : b v e = some e1) (c : body e1 h = .nx e2 h2) : forL b body (v :: vs) e h = forL b body vs e2 h2 := by
  conv => lhs; unfold forL
  rw [q]
  show (match body e1 h with | .nx e h => _ | .ct e h => _ | .bk e h => _ | r => r) = _
  rw [c]
end Cl
end
section
set_option maxRecDepth 10000
set_option maxHeartbeats 1000000
namespace Plc
open PySem L2 Lad
end Plc
end
section
set_option maxRecDepth 100000
set_option maxHeartbeats 1000000
namespace Pn
open PySem L2 Lad Bk Plc
end Pn
end
section
set_option maxRecDepth 100000
set_option maxHeartbeats 1000000
namespace Rw
open PySem L2 Lad Bk Pn
end Rw
end
section
set_option maxRecDepth 100000
set_option maxHeartbeats 1000000
namespace Rw
open PySem L2 Lad Bk Pn
end Rw
end
section
set_option maxRecDepth 100000
set_option maxHeartbeats 1000000
namespace Rw
open PySem L2 Lad Bk Pn
end Rw
end
section
set_option maxRecDepth 100000
set_option maxHeartbeats 4000000
namespace K81
open PySem L2 Lad Bk Cl
abbrev pr (r : Nat) : Val := .tup [.tup [.int (r : Int), .int 0], .tup [.int (r : Int), .int 0]]
abbrev srcV (r : Nat) (x : Val) : Val := .tup [pr r, pr r, .str "upper", x]
def prs : List Val := (List.range 13).map pr
def srcs : List (Val × Val) := (pr 0, .non) :: (List.range 12).map fun r => (pr (r + 1), srcV r (.int 0))
abbrev fsT (N : Int) : List (Nat × Val) := [(25, BV 12), (26, BV 13), (27, .ref 2), (28, .ref 3), (24, srcV 12 (.str "ratings")), (29, .int N)]
abbrev HX (ns : List Int) (N : Int) (gs : List Val) (t : Hea) : Hea := .fro ns :: .ins 41 (fsT N) :: .lst prs :: .dcT srcs :: .lst gs :: t
theorem twins12 (ns : List Int) (x3 x4 x5 : Option Val) : eMakeI 41 c_Twins___init__ (aCons (eVar 0) (aCons (eVar 1) (aCons (eVar 2) aNil))) [some (BV 12), some (BV 13), some (.int 0), x3, x4, x5] [.fro ns] = .ok (.ref 1) [.fro ns, .ins 41 (fsT 0), .lst prs, .dcT srcs] := by
  kernel_rfl
theorem src0 : lkN srcs (pr 0) = some .non := by kernel_rfl
theorem src1 {r : Nat} (h : r < 12) : lkN srcs (pr (r + 1)) = some (srcV r (.int 0)) := by
  have c : r = 0 ∨ r = 1 ∨ r = 2 ∨ r = 3 ∨ r = 4 ∨ r = 5 ∨ r = 6 ∨ r = 7 ∨ r = 8 ∨ r = 9 ∨ r = 10 ∨ r = 11 := by omega
  rcases c with rfl | rfl | rfl | rfl | rfl | rfl | rfl | rfl | rfl | rfl | rfl | rfl <;> kernel_rfl
abbrev gmV (a b : Int) : Val := .tup [.int a, .int b, .str "upper"]
def P : Nat → Int → List Val
  | 0, N => [gmV N (N + 1)]
  | r + 1, N => P r N ++ P r (N + 2 ^ (r + 1)) ++ [gmV N (N + 2 ^ (r + 1))]
/-- what leads to one of level r -/
def Q : Nat → Int → List Val
  | 0, _ => []
  | r + 1, N => P r N
theorem P_eq (r : Nat) (N : Int) : P r N = Q r N ++ Q r (N + 2 ^ r) ++ [gmV N (N + 2 ^ r)] := by
  cases r with
  | zero => rfl
  | succ r => rfl
theorem P_len : ∀ (r : Nat) (N : Int), (P r N).length + 1 = 2 ^ (r + 1)
  | 0, N => rfl
  | r + 1, N => by
    have a := P_len r N
    have b := P_len r (N + 2 ^ (r + 1))
    show (P r N ++ P r (N + 2 ^ (r + 1)) ++ [gmV N (N + 2 ^ (r + 1))]).length + 1 = _
    rw [List.length_append, List.length_append, List.length_singleton, Nat.pow_succ 2 (r + 1)]
    omega
theorem Q_len : ∀ (r : Nat) (N : Int), (Q r N).length + 1 = 2 ^ r
  | 0, N => rfl
  | r + 1, N => P_len r N
theorem P_und : ∀ (r : Nat) (N : Int), ∀ v ∈ P r N, v.und 0 = true
  | 0, N, v, hv => by rw [List.mem_singleton.mp hv]; rfl
  | r + 1, N, v, hv => by
    rcases List.mem_append.mp hv with hv | hv
    · rcases List.mem_append.mp hv with hv | hv
      · exact P_und r N v hv
      · exact P_und r _ v hv
    · rw [List.mem_singleton.mp hv]; rfl
theorem Q_und : ∀ (r : Nat) (N : Int), ∀ v ∈ Q r N, v.und 0 = true
  | 0, _, _, hv => nomatch hv
  | r + 1, N, v, hv => P_und r N v hv
def Und (gs : List Val) : Prop := ∀ v ∈ gs, v.und 0 = true
def Tl (t : Hea) : Prop := ∀ o ∈ t, o.und 0 = true
section
variable {ns : List Int} {N : Int} {gs : List Val} {t : Hea}
theorem at_t (N : Int) (gs : List Val) (t : Hea) (o : Ob) : (HX ns N gs (t ++ [o]))[t.length + 5]? = some o := B6.at_end (HX ns N gs t) o
theorem set_t (N : Int) (gs : List Val) (t : Hea) (o o' : Ob) : (HX ns N gs (t ++ [o])).set (t.length + 5) o' = HX ns N gs (t ++ [o']) := B6.set_end (HX ns N gs t) o o'
theorem cs_X (g : Und gs) (tt : Tl t) : Cs (HX ns N gs t) := fun o ho => by
  have ln : (HX ns N gs t).length = t.length + 5 := rfl
  rw [ln]
  simp only [List.mem_cons] at ho
  rcases ho with rfl | rfl | rfl | rfl | rfl | ho
  · rfl
  · rfl
  · kernel_rfl
  · kernel_rfl
  · exact lst_und fun v hv => und_mono (Nat.zero_le _) v (g v hv)
  · exact ob_mono (Nat.zero_le _) o (tt o ho)
theorem atI_get {xs : List Val} {j : Nat} {v : Val} (e : xs[j]? = some v) : L2.atI xs (j : Int) = some v := by
  have hj := (List.getElem?_eq_some_iff.mp e).1
  unfold L2.atI L2.ixN
  rw [if_pos (by omega), if_pos (by omega)]
  show xs[(j : Int).toNat]? = _
  rw [Int.toNat_natCast, e]
theorem ix_ref {h : Hea} {i : Nat} {xs : List Val} (e : h[i]? = some (.lst xs)) {j : Nat} {v : Val} (q : xs[j]? = some v) : oIx h (.ref i) (.int (j : Int)) = some v := by
  have l : lstAt h i = some xs := by unfold lstAt; rw [e]
  have i2 : itemsOf h (.ref i) = some xs := l
  unfold oIx
  dsimp only
  rw [i2]
  exact atI_get q
theorem src_at (N : Int) (gs : List Val) (t : Hea) (r : Nat) : oDGet (HX ns N gs t) (.ref 3) (pr r) = lkN srcs (pr r) := by
  show (match toNK (pr r) with | some _ => lkN srcs (pr r) | none => none) = _
  obtain ⟨k, hk⟩ : ∃ k, toNK (pr r) = some k := ⟨_, rfl⟩
  rw [hk]
theorem games_0 (n : Nat) (N : Int) (gs : List Val) (t : Hea) : (cz_Twins_put_games (n + 1)).1 [.ref 1, pr 0, .ref 4] (HX ns N gs t) = .ok (.int (-1)) (HX ns N gs t) := by
  show runB 3 4 (b_Twins_put_games (cz_Twins_put_games n).1 (cz_Twins_put_games n).2) [.ref 1, pr 0, .ref 4] (HX ns N gs t) = _
  refine (run_rt (fn := fin) (np := 3) (ns := 4) (ds := [.ref 1, pr 0, .ref 4]) (d := .int (-1)) (h' := HX ns N gs t) rfl ?_).trans (fin_same _ _)
  have s := src_at (ns := ns) N gs t 0
  rw [src0] at s
  unfold b_Twins_put_games
  refine seq_set (d := .non) (h1 := HX ns N gs t) (bin_ok (d := .ref 3) (d2 := pr 0) (h1 := HX ns N gs t) (h2 := HX ns N gs t) rfl rfl s) ?_
  exact Sp.seq_rt (if_yes (h1 := HX ns N gs t) rfl rfl)
theorem games_1 {n r : Nat} (hr : r < 12) {N : Int} {gs : List Val} {t : Hea} {N' : Int} {gs' : List Val} {M : Int} (q : (cz_Twins_put_games n).2 [.ref 1, srcV r (.int 0), .ref 4] (HX ns N gs t) = .ok (.tup [.int N, .int M]) (HX ns N' gs' t)) : (cz_Twins_put_games (n + 1)).1 [.ref 1, pr (r + 1), .ref 4] (HX ns N gs t) = .ok (.int N) (HX ns N' gs' t) := by
  show runB 3 4 (b_Twins_put_games (cz_Twins_put_games n).1 (cz_Twins_put_games n).2) [.ref 1, pr (r + 1), .ref 4] (HX ns N gs t) = _
  refine (run_rt (fn := fin) (np := 3) (ns := 4) (ds := [.ref 1, pr (r + 1), .ref 4]) (d := .int N) (h' := HX ns N' gs' t) rfl ?_).trans (fin_len rfl)
  have s := src_at (ns := ns) N gs t (r + 1)
  rw [src1 hr] at s
  unfold b_Twins_put_games
  refine seq_set (d := srcV r (.int 0)) (h1 := HX ns N gs t) (bin_ok (d := .ref 3) (d2 := pr (r + 1)) (h1 := HX ns N gs t) (h2 := HX ns N gs t) rfl rfl s) ?_
  refine seq_if_no (h1 := HX ns N gs t) rfl (ret_ok ?_)
  refine bin_ok (d := .tup [.int N, .int M]) (d2 := .int 0) (h1 := HX ns N' gs' t) (h2 := HX ns N' gs' t) ?_ rfl rfl
  exact meth_of (B := .ref 1) (h1 := HX ns N gs t) (h2 := HX ns N gs t) (fs := fsT N) (ds := [srcV r (.int 0), .ref 4]) rfl rfl rfl rfl q
abbrev E6 (k : Nat) (r : Nat) (x : Val) (x4 x5 : Option Val) : En := [some (.ref 1), some (srcV r x), some (.ref 4), some (.ref k), x4, x5]
/-- one of the two players -/
theorem turn {n r : Nat} (hr : r ≤ 12) (x : Val) {ps : List Val} (lp : ps.length < 100) {N' : Int} {gs' : List Val} (eN : N' = N + 2 ^ r) (x5 : Option Val)
    (q0 : r = 0 → 0 < n ∧ gs' = gs) (q1 : ∀ r', r = r' + 1 → (cz_Twins_put_games n).1 [.ref 1, pr r, .ref 4] (HX ns N gs (t ++ [Ob.lst ps])) = .ok (.int N) (HX ns N' gs' (t ++ [Ob.lst ps]))) (n0 : 0 ≤ N) :
    l_Twins_put_game_0 (cz_Twins_put_games n).1 (cz_Twins_put_games n).2 (E6 (t.length + 5) r x (some (pr r)) x5) (HX ns N gs (t ++ [Ob.lst ps])) = .nx (E6 (t.length + 5) r x (some (pr r)) (some (.int N))) (HX ns N' gs' (t ++ [Ob.lst (ps ++ [.int N])])) := by
  have app : ∀ x5' : Option Val, sEx (eApp (eVar 3) (eVar 5)) (E6 (t.length + 5) r x (some (pr r)) (some (.int N))) (HX ns N' gs' (t ++ [Ob.lst ps])) = .nx (E6 (t.length + 5) r x (some (pr r)) (some (.int N))) (HX ns N' gs' (t ++ [Ob.lst (ps ++ [.int N])])) := fun _ => by
    have e : eApp (eVar 3) (eVar 5) (E6 (t.length + 5) r x (some (pr r)) (some (.int N))) (HX ns N' gs' (t ++ [Ob.lst ps])) = .ok .non (HX ns N' gs' (t ++ [Ob.lst (ps ++ [.int N])])) := by
      show (match (HX ns N' gs' (t ++ [Ob.lst ps]))[t.length + 5]? with | some (Ob.lst _) => (Res.ok (Val.int N) (HX ns N' gs' (t ++ [Ob.lst ps]))).bind (fun (y : Val) (h2 : Hea) => match h2[t.length + 5]? with | some (Ob.lst xs) => if xs.length < 16777216 then Res.ok Val.non (h2.set (t.length + 5) (Ob.lst (xs ++ [y]))) else .stuck | _ => .stuck) | _ => .stuck) = _
      rw [at_t]
      dsimp only
      rw [ap_bindOk, at_t]
      dsimp only
      rw [if_pos (by omega), set_t]
    show ofR _ _ _ = _
    rw [e]
    rfl
  unfold l_Twins_put_game_0
  cases r with
  | zero =>
    obtain ⟨hn, eg⟩ := q0 rfl
    obtain ⟨n', rfl⟩ : ∃ n', n = n' + 1 := ⟨n - 1, by omega⟩
    subst eg
    have g0 := games_0 (ns := ns) n' N gs' (t ++ [Ob.lst ps])
    have eN : N' = N + 1 := eN
    have m : eMeth 41 34 (cz_Twins_put_games (n' + 1)).1 (eVar 0) (aCons (eVar 4) (aCons (eVar 2) aNil)) (E6 (t.length + 5) 0 x (some (pr 0)) x5) (HX ns N gs' (t ++ [Ob.lst ps])) = .ok (.int (-1)) (HX ns N gs' (t ++ [Ob.lst ps])) := meth_of (B := .ref 1) (h1 := HX ns N gs' (t ++ [Ob.lst ps])) (h2 := HX ns N gs' (t ++ [Ob.lst ps])) (fs := fsT N) (ds := [pr 0, .ref 4]) rfl rfl rfl rfl g0
    refine seq_set m ?_
    refine seq_nx (e1 := E6 (t.length + 5) 0 x (some (pr 0)) (some (.int N))) (h1 := HX ns N' gs' (t ++ [Ob.lst ps])) ?_ (app none)
    refine if_yes (h1 := HX ns N gs' (t ++ [Ob.lst ps])) rfl ?_
    refine seq_set (d := .int N) (h1 := HX ns N gs' (t ++ [Ob.lst ps])) rfl ?_
    rw [eN]
    rfl
  | succ r' =>
    have g1 := q1 r' rfl
    have m : eMeth 41 34 (cz_Twins_put_games n).1 (eVar 0) (aCons (eVar 4) (aCons (eVar 2) aNil)) (E6 (t.length + 5) (r' + 1) x (some (pr (r' + 1))) x5) (HX ns N gs (t ++ [Ob.lst ps])) = .ok (.int N) (HX ns N' gs' (t ++ [Ob.lst ps])) := meth_of (B := .ref 1) (h1 := HX ns N gs (t ++ [Ob.lst ps])) (h2 := HX ns N gs (t ++ [Ob.lst ps])) (fs := fsT N) (ds := [pr (r' + 1), .ref 4]) rfl rfl rfl rfl g1
    refine seq_set m ?_
    refine seq_nx (e1 := E6 (t.length + 5) (r' + 1) x (some (pr (r' + 1))) (some (.int N))) (h1 := HX ns N' gs' (t ++ [Ob.lst ps])) (if_no ?_) (app none)
    refine (bin_ok (d := .int N) (d2 := .int 0) (h1 := HX ns N' gs' (t ++ [Ob.lst ps])) (h2 := HX ns N' gs' (t ++ [Ob.lst ps])) rfl rfl (Lad.op_lt _ _ _)).trans ?_
    rw [decide_eq_false (by omega)]
theorem fin_l {h h2 : Hea} (e : h.length = h2.length) (d : Val) (g : Hea) : fin h d g = fin h2 d g := by
  unfold fin
  rw [e]
theorem put_core {n r : Nat} (hr : r ≤ 12) (x : Val) (n0 : 0 ≤ N) (ug : Und gs) (tt : Tl t) (lg : gs.length + 2 ^ (r + 1) < 1000000)
    (tn : ∀ (N : Int) (gs : List Val) (ps : List Val) (x5 : Option Val), 0 ≤ N → Und gs → gs.length + 2 ^ r < 1000000 → ps.length < 100 → Und ps → l_Twins_put_game_0 (cz_Twins_put_games n).1 (cz_Twins_put_games n).2 (E6 (t.length + 5) r x (some (pr r)) x5) (HX ns N gs (t ++ [Ob.lst ps])) = .nx (E6 (t.length + 5) r x (some (pr r)) (some (.int N))) (HX ns (N + 2 ^ r) (gs ++ Q r N) (t ++ [Ob.lst (ps ++ [.int N])]))) :
    (cz_Twins_put_games (n + 1)).2 [.ref 1, srcV r x, .ref 4] (HX ns N gs t) = .ok (.tup [.int N, .int (N + 2 ^ r)]) (HX ns (N + 2 ^ (r + 1)) (gs ++ P r N) t) := by
  have e2 : (2 : Int) ^ (r + 1) = 2 ^ r + 2 ^ r := by rw [Int.pow_succ]; omega
  have e2n : (2 : Nat) ^ (r + 1) = 2 ^ r + 2 ^ r := by rw [Nat.pow_succ]; omega
  have p0 : (0 : Int) ≤ 2 ^ r := Int.le_of_lt (Int.pow_pos (by decide))
  have q1 := Q_len r N
  have q2 := Q_len r (N + 2 ^ r)
  have u1 : Und (gs ++ Q r N) := fun v hv => by
    rcases List.mem_append.mp hv with hv | hv
    · exact ug v hv
    · exact Q_und r N v hv
  have uP : Und (gs ++ P r N) := fun v hv => by
    rcases List.mem_append.mp hv with hv | hv
    · exact ug v hv
    · exact P_und r N v hv
  show runB 3 6 (b_Twins_put_game (cz_Twins_put_games n).1 (cz_Twins_put_games n).2) [.ref 1, srcV r x, .ref 4] (HX ns N gs t) = _
  refine (run_rt (fn := fin) (np := 3) (ns := 6) (ds := [.ref 1, srcV r x, .ref 4]) (d := .tup [.int N, .int (N + 2 ^ r)]) (h' := HX ns (N + 2 ^ (r + 1)) (gs ++ P r N) (t ++ [Ob.lst [.int N, .int (N + 2 ^ r)]])) rfl ?_).trans ?_
  · have t1 := tn N gs [] none n0 ug (by omega) (by decide) (fun _ z => nomatch z)
    have t2 := tn (N + 2 ^ r) (gs ++ Q r N) [.int N] (some (.int N)) (by omega) u1 (by rw [List.length_append]; omega) (by simp) (fun v hv => by rw [List.mem_singleton.mp hv]; rfl)
    have i0 : ∀ (N' : Int) (gs' : List Val) (x4 x5 : Option Val), eBin oIx (eVar 3) (eC (.int 0)) (E6 (t.length + 5) r x x4 x5) (HX ns N' gs' (t ++ [Ob.lst [.int N, .int (N + 2 ^ r)]])) = .ok (.int N) (HX ns N' gs' (t ++ [Ob.lst [.int N, .int (N + 2 ^ r)]])) := fun N' gs' x4 x5 => bin_ok (d := .ref (t.length + 5)) (d2 := .int 0) rfl rfl (ix_ref (j := 0) (at_t (ns := ns) N' gs' t _) rfl)
    have i1 : ∀ (N' : Int) (gs' : List Val) (x4 x5 : Option Val), eBin oIx (eVar 3) (eC (.int 1)) (E6 (t.length + 5) r x x4 x5) (HX ns N' gs' (t ++ [Ob.lst [.int N, .int (N + 2 ^ r)]])) = .ok (.int (N + 2 ^ r)) (HX ns N' gs' (t ++ [Ob.lst [.int N, .int (N + 2 ^ r)]])) := fun N' gs' x4 x5 => bin_ok (d := .ref (t.length + 5)) (d2 := .int 1) rfl rfl (ix_ref (j := 1) (at_t (ns := ns) N' gs' t _) rfl)
    show b_Twins_put_game (cz_Twins_put_games n).1 (cz_Twins_put_games n).2 (startE 6 [.ref 1, srcV r x, .ref 4]) (HX ns N gs t) = _
    unfold b_Twins_put_game
    refine seq_set (d := .ref (t.length + 5)) (h1 := HX ns N gs (t ++ [Ob.lst []])) rfl ?_
    refine seq_nx (e1 := E6 (t.length + 5) r x (some (pr r)) (some (.int (N + 2 ^ r)))) (h1 := HX ns (N + 2 ^ r + 2 ^ r) (gs ++ Q r N ++ Q r (N + 2 ^ r)) (t ++ [Ob.lst [.int N, .int (N + 2 ^ r)]])) ?_ ?_
    · rw [for_eq (xs := [pr r, pr r]) (h1 := HX ns N gs (t ++ [Ob.lst []])) rfl]
      exact forL_cons rfl t1 (forL_cons rfl t2 rfl)
    · have ap : sEx (eApp (eVar 2) (eTup (aCons (eBin oIx (eVar 3) (eC (.int 0))) (aCons (eBin oIx (eVar 3) (eC (.int 1))) (aCons (eBin oIx (eVar 1) (eC (.int 2))) aNil))))) (E6 (t.length + 5) r x (some (pr r)) (some (.int (N + 2 ^ r)))) (HX ns (N + 2 ^ r + 2 ^ r) (gs ++ Q r N ++ Q r (N + 2 ^ r)) (t ++ [Ob.lst [.int N, .int (N + 2 ^ r)]])) = .nx (E6 (t.length + 5) r x (some (pr r)) (some (.int (N + 2 ^ r)))) (HX ns (N + 2 ^ (r + 1)) (gs ++ P r N) (t ++ [Ob.lst [.int N, .int (N + 2 ^ r)]])) := by
        have tu : eTup (aCons (eBin oIx (eVar 3) (eC (.int 0))) (aCons (eBin oIx (eVar 3) (eC (.int 1))) (aCons (eBin oIx (eVar 1) (eC (.int 2))) aNil))) (E6 (t.length + 5) r x (some (pr r)) (some (.int (N + 2 ^ r)))) (HX ns (N + 2 ^ r + 2 ^ r) (gs ++ Q r N ++ Q r (N + 2 ^ r)) (t ++ [Ob.lst [.int N, .int (N + 2 ^ r)]])) = .ok (gmV N (N + 2 ^ r)) (HX ns (N + 2 ^ r + 2 ^ r) (gs ++ Q r N ++ Q r (N + 2 ^ r)) (t ++ [Ob.lst [.int N, .int (N + 2 ^ r)]])) :=
          tup_ok (ds := [.int N, .int (N + 2 ^ r), .str "upper"]) (acons_ok (i0 _ _ _ _) (acons_ok (i1 _ _ _ _) (acons_ok rfl rfl))) (by simp)
        have e : eApp (eVar 2) (eTup (aCons (eBin oIx (eVar 3) (eC (.int 0))) (aCons (eBin oIx (eVar 3) (eC (.int 1))) (aCons (eBin oIx (eVar 1) (eC (.int 2))) aNil)))) (E6 (t.length + 5) r x (some (pr r)) (some (.int (N + 2 ^ r)))) (HX ns (N + 2 ^ r + 2 ^ r) (gs ++ Q r N ++ Q r (N + 2 ^ r)) (t ++ [Ob.lst [.int N, .int (N + 2 ^ r)]])) = .ok .non (HX ns (N + 2 ^ (r + 1)) (gs ++ P r N) (t ++ [Ob.lst [.int N, .int (N + 2 ^ r)]])) := by
          show (eTup (aCons (eBin oIx (eVar 3) (eC (.int 0))) (aCons (eBin oIx (eVar 3) (eC (.int 1))) (aCons (eBin oIx (eVar 1) (eC (.int 2))) aNil))) (E6 (t.length + 5) r x (some (pr r)) (some (.int (N + 2 ^ r)))) (HX ns (N + 2 ^ r + 2 ^ r) (gs ++ Q r N ++ Q r (N + 2 ^ r)) (t ++ [Ob.lst [.int N, .int (N + 2 ^ r)]]))).bind (fun (y : Val) (h2 : Hea) => match h2[4]? with | some (Ob.lst xs) => if xs.length < 16777216 then Res.ok Val.non (h2.set 4 (Ob.lst (xs ++ [y]))) else .stuck | _ => .stuck) = _
          rw [tu, ap_bindOk]
          show (if (gs ++ Q r N ++ Q r (N + 2 ^ r)).length < 16777216 then Res.ok Val.non (HX ns (N + 2 ^ r + 2 ^ r) (gs ++ Q r N ++ Q r (N + 2 ^ r) ++ [gmV N (N + 2 ^ r)]) (t ++ [Ob.lst [.int N, .int (N + 2 ^ r)]])) else .stuck) = _
          rw [if_pos (by rw [List.length_append, List.length_append]; omega), P_eq, e2]
          rw [show N + 2 ^ r + 2 ^ r = N + (2 ^ r + 2 ^ r) by omega, List.append_assoc, List.append_assoc, List.append_assoc]
        show ofR _ _ _ = _
        rw [e]
        rfl
      refine seq_nx ap (ret_ok ?_)
      exact tup_ok (ds := [.int N, .int (N + 2 ^ r)]) (acons_ok (i0 _ _ _ _) (acons_ok (i1 _ _ _ _) rfl)) (by simp)
  · rw [fin_l (h := HX ns N gs t) (h2 := HX ns (N + 2 ^ (r + 1)) (gs ++ P r N) t) rfl]
    exact (cs_X uP tt).fin (.lst [.int N, .int (N + 2 ^ r)]) [] rfl
theorem put_ok : ∀ (r : Nat), r ≤ 12 → ∀ (n : Nat), 2 * r + 2 ≤ n → ∀ (N : Int) (gs : List Val) (t : Hea) (x : Val), 0 ≤ N → Und gs → Tl t → gs.length + 2 ^ (r + 1) < 1000000 →
    (cz_Twins_put_games n).2 [.ref 1, srcV r x, .ref 4] (HX ns N gs t) = .ok (.tup [.int N, .int (N + 2 ^ r)]) (HX ns (N + 2 ^ (r + 1)) (gs ++ P r N) t) := by
  intro r
  induction r with
  | zero =>
    intro hr n hn N gs t x n0 ug tt lg
    obtain ⟨n', rfl⟩ : ∃ n', n = n' + 1 := ⟨n - 1, by omega⟩
    refine put_core hr x n0 ug tt lg fun N gs ps x5 n0 ug lg lp up => ?_
    exact turn hr x lp rfl x5 (fun _ => ⟨by omega, List.append_nil gs⟩) (fun r' e => by cases e) n0
  | succ r ih =>
    intro hr n hn N gs t x n0 ug tt lg
    obtain ⟨n', rfl⟩ : ∃ n', n = n' + 1 + 1 := ⟨n - 2, by omega⟩
    refine put_core hr x n0 ug tt lg fun N gs ps x5 n0 ug lg lp up => ?_
    refine turn hr x lp rfl x5 (fun z => by cases z) (fun r' e => ?_) n0
    cases e
    refine games_1 (M := N + 2 ^ r) (by omega) (ih (by omega) n' (by omega) N gs (t ++ [Ob.lst ps]) (.int 0) n0 ug (fun o ho => ?_) lg)
    rcases List.mem_append.mp ho with ho | ho
    · exact tt o ho
    · rw [List.mem_singleton.mp ho]
      exact lst_und up
end
end K81
end
section
set_option maxRecDepth 100000
set_option maxHeartbeats 4000000
namespace K81
open PySem L2 Lad Bk Cl
def countsV : Val := .dic true prs ((List.range 13).map fun r => .int (2 ^ r - 1))
theorem many12 (ns : List Int) : c_Twins_many_games [.ref 1] [.fro ns, .ins 41 (fsT 0), .lst prs, .dcT srcs] = .ok countsV [.fro ns, .ins 41 (fsT 0), .lst prs, .dcT srcs] := by
  kernel_rfl
theorem check12 (ns : List Int) : c_check_rating [BV 12, BV 13, .int 0] [.fro ns] = .ok .non [.fro ns] := by
  kernel_rfl
theorem few12 (ns : List Int) (x3 x5 : Option Val) : eBin oGt (eBin oAdd (eBin oAdd (eC (.int 1)) (eBin oDGet (eVar 4) (eBin oIx (eFld (Nat.beq 41) 24 (eVar 3)) (eC (.int 0))))) (eBin oDGet (eVar 4) (eBin oIx (eFld (Nat.beq 41) 24 (eVar 3)) (eC (.int 1))))) (eC k_MOST_GAMES) [some (BV 12), some (BV 13), some (.int 0), some (.ref 1), some countsV, x5] [.fro ns, .ins 41 (fsT 0), .lst prs, .dcT srcs] = .ok (.bl false) [.fro ns, .ins 41 (fsT 0), .lst prs, .dcT srcs] := by
  kernel_rfl
theorem P_mem : ∀ (r : Nat) (N : Int), ∀ v ∈ P r N, ∃ a b, v = gmV a b
  | 0, N, v, hv => ⟨_, _, List.mem_singleton.mp hv⟩
  | r + 1, N, v, hv => by
    rcases List.mem_append.mp hv with hv | hv
    · rcases List.mem_append.mp hv with hv | hv
      · exact P_mem r N v hv
      · exact P_mem r _ v hv
    · exact ⟨_, _, List.mem_singleton.mp hv⟩
theorem unlike12 (ns : List Int) : c_first_unlike [BV 12, BV 13, .int 0] [.fro ns] = .ok (.tup [.lst (P 12 0), .str "ratings"]) [.fro ns] := by
  have pu := put_ok (ns := ns) 12 (by decide) 30 (by decide) 0 [] [] (.str "ratings") (by decide) (fun _ z => nomatch z) (fun _ z => nomatch z) (by decide)
  rw [List.nil_append] at pu
  have ce := check12 ns
  have mg := many12 ns
  have fe := few12 ns
  have tw := twins12 ns none none none
  have pl := P_len 12 0
  have pm := P_mem 12 0
  generalize P 12 0 = G at pu pl pm ⊢
  refine (run_rt (fn := fin) (np := 3) (ns := 6) (b := b_first_unlike) (ds := [BV 12, BV 13, .int 0]) (d := .tup [.ref 4, .str "ratings"]) (h' := HX ns (0 + 2 ^ (12 + 1)) G []) rfl ?_).trans ?_
  · unfold b_first_unlike
    have k1 : sEx (eCall c_check_rating (aCons (eVar 0) (aCons (eVar 1) (aCons (eVar 2) aNil)))) (startE 6 [BV 12, BV 13, .int 0]) [.fro ns] = .nx (startE 6 [BV 12, BV 13, .int 0]) [.fro ns] := by
      show ofR (eCall _ _ _ _) _ _ = _
      rw [call_eq (ds := [BV 12, BV 13, .int 0]) (h1 := [.fro ns]) rfl ce]
      rfl
    refine seq_nx k1 ?_
    refine seq_set tw ?_
    refine seq_if_no (h1 := [.fro ns, .ins 41 (fsT 0), .lst prs, .dcT srcs]) rfl ?_
    have m : eMeth 41 32 c_Twins_many_games (eVar 3) aNil [some (BV 12), some (BV 13), some (.int 0), some (.ref 1), none, none] [.fro ns, .ins 41 (fsT 0), .lst prs, .dcT srcs] = .ok countsV [.fro ns, .ins 41 (fsT 0), .lst prs, .dcT srcs] := meth_of (B := .ref 1) (h1 := [.fro ns, .ins 41 (fsT 0), .lst prs, .dcT srcs]) (h2 := [.fro ns, .ins 41 (fsT 0), .lst prs, .dcT srcs]) (fs := fsT 0) (ds := []) rfl rfl rfl rfl mg
    refine seq_set m ?_
    refine seq_if_no (fe none none) ?_
    refine seq_set (d := .ref 4) (h1 := HX ns 0 [] []) rfl ?_
    have p : sEx (eMeth 41 33 c_Twins_put_game (eVar 3) (aCons (eFld (Nat.beq 41) 24 (eVar 3)) (aCons (eVar 5) aNil))) [some (BV 12), some (BV 13), some (.int 0), some (.ref 1), some countsV, some (.ref 4)] (HX ns 0 [] []) = .nx [some (BV 12), some (BV 13), some (.int 0), some (.ref 1), some countsV, some (.ref 4)] (HX ns (0 + 2 ^ (12 + 1)) G []) := by
      have q : eMeth 41 33 c_Twins_put_game (eVar 3) (aCons (eFld (Nat.beq 41) 24 (eVar 3)) (aCons (eVar 5) aNil)) [some (BV 12), some (BV 13), some (.int 0), some (.ref 1), some countsV, some (.ref 4)] (HX ns 0 [] []) = .ok (.tup [.int 0, .int (0 + 2 ^ 12)]) (HX ns (0 + 2 ^ (12 + 1)) G []) := meth_of (B := .ref 1) (h1 := HX ns 0 [] []) (h2 := HX ns 0 [] []) (fs := fsT 0) (ds := [srcV 12 (.str "ratings"), .ref 4]) rfl rfl rfl rfl pu
      show ofR _ _ _ = _
      rw [q]
      rfl
    refine seq_nx p (ret_ok ?_)
    rfl
  · refine fin_new rfl rfl ?_
    have z : frz 39 1 (HX ns (0 + 2 ^ (12 + 1)) G []) (.ref 4) = some (.lst G) := by
      show (mapO (frz 38 1 (HX ns (0 + 2 ^ (12 + 1)) G [])) G).map Val.lst = _
      rw [mapO_id]
      · rfl
      · intro v hv
        obtain ⟨a, b, rfl⟩ := pm v hv
        rfl
    have m : mapO (frz 39 1 (HX ns (0 + 2 ^ (12 + 1)) G [])) [.ref 4, .str "ratings"] = some [.lst G, .str "ratings"] := by
      unfold mapO
      rw [z]
      rfl
    show (mapO (frz 39 1 (HX ns (0 + 2 ^ (12 + 1)) G [])) [.ref 4, .str "ratings"]).map Val.tup = _
    rw [m]
    rfl
end K81
end
section
set_option maxRecDepth 10000
set_option maxHeartbeats 1000000
namespace Td
open PySem L2 Lad
open Bk (forL_cons)
end Td
end
section
set_option maxRecDepth 10000
set_option maxHeartbeats 1000000
namespace Lad
open PySem L2
end Lad
namespace Td
open PySem L2 Lad
open Bk (forL_cons)
end Td
end
section
set_option maxRecDepth 10000
set_option maxHeartbeats 1000000
namespace Lad
open PySem L2
theorem undL_all {n : Nat} : ∀ {xs : List Val}, (∀ x ∈ xs, x.und n = true) → undL n xs = true
  | [], _ => by unfold undL; rfl
  | x :: xs, w => by unfold undL; rw [w x List.mem_cons_self, undL_all fun z hz => w z (List.mem_cons_of_mem _ hz)]; rfl
theorem und_noB (n : Nat) : ∀ (k : Nat) (d : Val), noB k d = true → d.und n = true
  | _, .non, _ => by unfold Val.und; rfl
  | _, .int _, _ => by unfold Val.und; rfl
  | _, .str _, _ => by unfold Val.und; rfl
  | k + 1, .tup xs, e => by unfold Val.und; exact undL_all fun x hx => und_noB n k x (List.all_eq_true.mp e x hx)
  | k + 1, .lst xs, e => by unfold Val.und; exact undL_all fun x hx => und_noB n k x (List.all_eq_true.mp e x hx)
  | 0, .tup _, e => by cases e
  | 0, .lst _, e => by cases e
  | 0, .bl _, e => by cases e
  | 0, .dic _ _ _, e => by cases e
  | 0, .obj _ _ _, e => by cases e
  | 0, .ref _, e => by cases e
  | 0, .exn _ _, e => by cases e
  | _ + 1, .bl _, e => by cases e
  | _ + 1, .dic _ _ _, e => by cases e
  | _ + 1, .obj _ _ _, e => by cases e
  | _ + 1, .ref _, e => by cases e
  | _ + 1, .exn _ _, e => by cases e
def Clean (h : Hea) : Prop := ∀ o ∈ h, ∀ n, o.und n = true
theorem Clean.lst {h : Hea} (c : Clean h) {xs : List Val} (k : Nat) (w : xs.all (noB k) = true) : Clean (h ++ [.lst xs]) := by
  intro o ho n
  rcases List.mem_append.mp ho with ho | ho
  · exact c o ho n
  · simp only [List.mem_cons, List.not_mem_nil, or_false] at ho
    rw [ho]
    show undL n xs = true
    exact undL_all fun x hx => und_noB n k x (List.all_eq_true.mp w x hx)
end Lad
namespace Td
open PySem L2 Lad
open Bk (forL_cons)
end Td
end
section
set_option maxRecDepth 10000
set_option maxHeartbeats 1000000
namespace Td
open PySem L2 Lad

end Td
end
section
set_option maxRecDepth 10000
set_option maxHeartbeats 1000000
namespace Td
open PySem L2 Lad
open Bk (forL_cons)
end Td
end
section
set_option maxRecDepth 10000
set_option maxHeartbeats 1000000
namespace Td
open PySem L2 Lad
open Bk (forL_cons)
end Td
end
section
set_option maxRecDepth 10000
set_option maxHeartbeats 1000000
namespace Td
open PySem L2 Lad
open Bk (forL_cons)
end Td
end
section
set_option maxRecDepth 10000
set_option maxHeartbeats 1000000
namespace Td
open PySem L2 Lad
open Bk (forL_cons)
end Td
end
section
set_option maxRecDepth 100000
set_option maxHeartbeats 1000000
namespace Rn
open PySem L2 Lad Td
open Bk (forL_cons)
end Rn
end
section
set_option maxRecDepth 100000
set_option maxHeartbeats 1000000
namespace Rn
open PySem L2 Lad Td
end Rn
end
section
set_option maxRecDepth 100000
set_option maxHeartbeats 1000000
namespace Rn
open PySem L2 Lad Td
open Bk (forL_cons)
end Rn
end
section
set_option maxRecDepth 100000
set_option maxHeartbeats 1000000
namespace Rn
open PySem L2 Lad Td
open Bk (forL_cons)
end Rn
end
section
set_option maxRecDepth 100000
set_option maxHeartbeats 1000000
namespace Rn
open PySem L2 Lad Td
open Bk (forL_cons)
end Rn
end
section
set_option maxRecDepth 100000
set_option maxHeartbeats 1000000
namespace Rn
open PySem L2 Lad Td
open Bk (forL_cons)
end Rn
end
section
set_option maxRecDepth 100000
set_option maxHeartbeats 1000000
namespace Rn
open PySem L2 Lad Td
open Bk (forL_cons)
end Rn
end
section
set_option maxRecDepth 100000
set_option maxHeartbeats 1000000
namespace Rn
open PySem L2 Lad Td
open Bk (forL_cons)
end Rn
end
section
set_option maxRecDepth 100000
set_option maxHeartbeats 1000000
namespace Rn
open PySem L2 Lad Td
open Bk (forL_cons)
end Rn
end
section
set_option maxRecDepth 100000
set_option maxHeartbeats 1000000
namespace Rn
open PySem L2 Lad Td
open Bk (forL_cons)
end Rn
end
section
set_option maxRecDepth 100000
set_option maxHeartbeats 1000000
namespace Dk
open PySem L2 Lad Bk Wy Cl
/-- keys of a kind κ: what they stand for, what they are hashed by -/
structure KeyOk {κ : Type} (g : κ → Val) (nk : κ → NestedKey) : Prop where
  at_ : ∀ p, toNK (g p) = some (nk p)
  inj : ∀ p q, nk p = nk q → p = q
section
variable {κ : Type} [DecidableEq κ] {g : κ → Val} {nk : κ → NestedKey} {α : Type} {f : α → Val}
theorem KeyOk.kEq (K : KeyOk g nk) (p q : κ) : Lad.kEq (g p) (g q) = decide (p = q) := by
  rw [kEq_eq (K.at_ p) (K.at_ q)]
  congr 1
  exact propext ⟨K.inj p q, fun e => e ▸ rfl⟩
abbrev kv (g : κ → Val) (f : α → Val) (hs : List (κ × α)) : List (Val × Val) := hs.map fun x => (g x.1, f x.2)
abbrev keys (hs : List (κ × α)) : List κ := hs.map (·.1)
def lk (hs : List (κ × α)) (p : κ) : Option α := (hs.find? fun x => decide (x.1 = p)).map (·.2)
theorem lk_cons (q : κ) (a : α) (hs : List (κ × α)) (p : κ) : lk ((q, a) :: hs) p = if q = p then some a else lk hs p := by
  unfold lk
  rw [List.find?_cons]
  by_cases e : q = p <;> simp [e]
theorem lkN_kv (K : KeyOk g nk) (p : κ) : ∀ hs : List (κ × α), lkN (kv g f hs) (g p) = (lk hs p).map f
  | [] => rfl
  | (q, a) :: hs => by
    have ih := lkN_kv K p hs
    show (if Lad.kEq (g q) (g p) = true then some (f a) else lkN (kv g f hs) (g p)) = _
    rw [K.kEq, ih, lk_cons]
    by_cases e : q = p <;> simp [e]
theorem lk_some : ∀ {hs : List (κ × α)} {p : κ}, p ∈ keys hs → ∃ a, lk hs p = some a ∧ (p, a) ∈ hs
  | [], _, m => nomatch m
  | (q, b) :: hs, p, m => by
    rw [lk_cons]
    by_cases e : q = p
    · subst e; exact ⟨b, by rw [if_pos rfl], List.mem_cons_self⟩
    · rw [if_neg e]
      obtain ⟨a, h1, h2⟩ := lk_some (hs := hs) (p := p) ((List.mem_cons.mp m).resolve_left fun z => e z.symm)
      exact ⟨a, h1, List.mem_cons_of_mem _ h2⟩
def put (D : List (κ × α)) (p : κ) (a : α) : List (κ × α) := if p ∈ keys D then D.map (fun x => if x.1 = p then (x.1, a) else x) else D ++ [(p, a)]
theorem lk_app (p q : κ) (a : α) : ∀ D : List (κ × α), p ∉ keys D → lk (D ++ [(p, a)]) q = if q = p then some a else lk D q
  | [], _ => by
    rw [List.nil_append, lk_cons]
    by_cases e : p = q
    · rw [if_pos e, if_pos e.symm]
    · rw [if_neg e, if_neg fun z => e z.symm]
  | (r, b) :: D, n => by
    have nr : p ≠ r := fun z => n (by rw [z]; exact List.mem_cons_self)
    rw [List.cons_append, lk_cons, lk_cons, lk_app p q a D fun z => n (List.mem_cons_of_mem _ z)]
    by_cases e2 : r = q
    · rw [if_pos e2, if_pos e2, if_neg fun z => nr (by rw [← z, e2])]
    · rw [if_neg e2, if_neg e2]
theorem lk_upd (p q : κ) (a : α) : ∀ D : List (κ × α), lk (D.map fun x => if x.1 = p then (x.1, a) else x) q = if q = p then (lk D q).map (fun _ => a) else lk D q
  | [] => by split <;> rfl
  | (r, b) :: D => by
    have ih := lk_upd p q a D
    rw [List.map_cons]
    show lk ((if r = p then (r, a) else (r, b)) :: _) q = _
    rw [lk_cons r b]
    by_cases e1 : r = p
    · rw [if_pos e1, lk_cons]
      by_cases e2 : r = q
      · rw [if_pos e2, if_pos e2, if_pos (by rw [← e2, e1])]; rfl
      · rw [if_neg e2, if_neg e2]; exact ih
    · rw [if_neg e1, lk_cons]
      by_cases e2 : r = q
      · rw [if_pos e2, if_pos e2, if_neg (by rw [← e2]; exact e1)]
      · rw [if_neg e2, if_neg e2]; exact ih
theorem lk_put (D : List (κ × α)) (p q : κ) (a : α) : lk (put D p a) q = if q = p then some a else lk D q := by
  unfold put
  by_cases c : p ∈ keys D
  · rw [if_pos c, lk_upd]
    by_cases e : q = p
    · rw [if_pos e, if_pos e]
      obtain ⟨b, hb, _⟩ := lk_some c
      rw [e, hb]; rfl
    · rw [if_neg e, if_neg e]
  · rw [if_neg c, lk_app p q a D c]
theorem put_len (D : List (κ × α)) (p : κ) (a : α) : (put D p a).length ≤ D.length + 1 := by
  unfold put
  split
  · rw [List.length_map]; omega
  · rw [List.length_append]; exact Nat.le_refl _
abbrev dic (g : κ → Val) (f : α → Val) (hs : List (κ × α)) : Val := .dic true ((keys hs).map g) (hs.map fun x => f x.2)
theorem zip_kv : ∀ hs : List (κ × α), ((keys hs).map g).zip (hs.map fun x => f x.2) = kv g f hs
  | [] => rfl
  | x :: hs => by
    show (g x.1 :: (keys hs).map g).zip (f x.2 :: hs.map fun x => f x.2) = _
    rw [List.zip_cons_cons, zip_kv hs]
    rfl
variable {h : Hea}
/-- a dict, sealed or not, or as a value -/
def DD (h : Hea) (g : κ → Val) (f : α → Val) (D : Val) (hs : List (κ × α)) : Prop := D = dic g f hs ∨ ∃ i, D = .ref i ∧ (h[i]? = some (.dcT (kv g f hs)) ∨ h[i]? = some (.dcM (kv g f hs)))
theorem DD.n {D : Val} {hs : List (κ × α)} (d : DD h g f D hs) : dctOf h D = none ∧ dcnOf h D = some (kv g f hs) := by
  rcases d with rfl | ⟨i, rfl, e | e⟩
  · refine ⟨rfl, ?_⟩
    show some (((keys hs).map g).zip (hs.map fun x => f x.2)) = _
    rw [zip_kv]
  · exact ⟨by unfold dctOf; dsimp only; rw [e], by unfold dcnOf; dsimp only; rw [e]⟩
  · exact ⟨by unfold dctOf; dsimp only; rw [e], by unfold dcnOf; dsimp only; rw [e]⟩
theorem DD.k (K : KeyOk g nk) {D : Val} {hs : List (κ × α)} (d : DD h g f D hs) (p : κ) : oDk h D (g p) = some ((lk hs p).map f) := by
  unfold oDk
  rw [d.n.1, d.n.2, K.at_ p]
  dsimp only
  rw [lkN_kv K]
theorem DD.get (K : KeyOk g nk) {D : Val} {hs : List (κ × α)} (d : DD h g f D hs) {p : κ} {a : α} (e : lk hs p = some a) : oDGet h D (g p) = some (f a) := by
  unfold oDGet
  rw [d.n.1, d.n.2, K.at_ p]
  dsimp only
  rw [lkN_kv K, e]; rfl
end
end Dk
end
section
set_option maxRecDepth 100000
set_option maxHeartbeats 4000000
namespace K81
open PySem L2 Lad Bk Cl Dk
abbrev kz (D : List (Int × Int)) : List (Val × Val) := D.map fun e => (.int e.1, .int e.2)
theorem ke_int (a b : Int) : keyEq (.int a) (.int b) = decide (a = b) := rfl
theorem has_kz (p : Int) : ∀ D : List (Int × Int), hasK (kz D) (.int p) = decide (p ∈ keys D)
  | [] => rfl
  | x :: D => by
    show (keyEq (.int x.1) (.int p) || hasK (kz D) (.int p)) = _
    rw [ke_int, has_kz p D]
    show (decide (x.1 = p) || decide (p ∈ keys D)) = decide (p ∈ x.1 :: keys D)
    rw [← Bool.decide_or, decide_eq_decide, List.mem_cons]
    exact ⟨fun h => h.imp (fun e => e.symm) id, fun h => h.imp (fun e => e.symm) id⟩
theorem lk_kz (p : Int) : ∀ D : List (Int × Int), lkK (kz D) (.int p) = (lk D p).map Val.int
  | [] => rfl
  | (a, b) :: D => by
    show (if keyEq (.int a) (.int p) = true then some (Val.int b) else lkK (kz D) (.int p)) = _
    rw [ke_int, lk_cons, lk_kz p D]
    by_cases h : a = p
    · rw [decide_eq_true h, if_pos rfl, if_pos h]; rfl
    · rw [decide_eq_false h, if_neg (by decide), if_neg h]
theorem put_kz (D : List (Int × Int)) (p x : Int) : putKv (.int p) (.int x) (kz D) = kz (put D p x) := by
  unfold putKv put
  rw [has_kz]
  by_cases h : p ∈ keys D
  · rw [decide_eq_true h, if_pos rfl, if_pos h]
    unfold kz
    rw [List.map_map, List.map_map]
    refine List.map_congr_left fun e _ => ?_
    show (if keyEq (.int e.1) (.int p) = true then (Val.int e.1, Val.int x) else (Val.int e.1, Val.int e.2)) = _
    rw [ke_int]
    by_cases q : e.1 = p
    · rw [decide_eq_true q, if_pos rfl]
      show _ = (Val.int (if e.1 = p then (e.1, x) else e).1, Val.int (if e.1 = p then (e.1, x) else e).2)
      rw [if_pos q]
    · rw [decide_eq_false q, if_neg (by decide)]
      show _ = (Val.int (if e.1 = p then (e.1, x) else e).1, Val.int (if e.1 = p then (e.1, x) else e).2)
      rw [if_neg q]
  · rw [decide_eq_false h, if_neg (by decide), if_neg h]
    unfold kz
    rw [List.map_append]
    rfl
/-- how far a player is -/
def S (D : List (Int × Int)) (p : Int) : Int := (lk D p).getD 0
theorem S_put (D : List (Int × Int)) (p q x : Int) : S (put D p x) q = if q = p then x else S D q := by
  unfold S
  rw [lk_put]
  split <;> rfl
abbrev HS (ns : List Int) (D : List (Int × Int)) : Hea := [.fro ns, .dcK (kz D)]
abbrev EV (G : List Val) (x5 x6 x7 x8 x9 x10 : Option Val) : En := [some (.tup [.lst G, .str "ratings"]), some (.int 12), some (.lst G), some (.str "ratings"), some (.ref 1), x5, x6, x7, x8, x9, x10]
section
variable {ns : List Int} {G : List Val}
theorem get_S (D : List (Int × Int)) {k : Nat} {e : En} {p : Int} (e4 : e[4]? = some (some (.ref 1))) (ek : e[k]? = some (some (.int p))) : eDGet2 (eVar 4) (eVar k) (eC (.int 0)) e (HS ns D) = .ok (.int (S D p)) (HS ns D) := by
  unfold eDGet2
  rw [show eVar 4 e (HS ns D) = .ok (.ref 1) (HS ns D) by rw [ap_var, e4], ap_bindOk]
  rw [if_pos (show isDct (HS ns D) (.ref 1) = true from rfl), show eVar k e (HS ns D) = .ok (.int p) (HS ns D) by rw [ap_var, ek], ap_bindOk]
  show (match oDk (HS ns D) (.ref 1) (.int p) with | some o => Res.ok (o.getD (.int 0)) (HS ns D) | none => .stuck) = _
  rw [show oDk (HS ns D) (.ref 1) (.int p) = some (lkK (kz D) (.int p)) from rfl, lk_kz]
  unfold S
  cases lk D p <;> rfl
theorem setD_S (D : List (Int × Int)) (p x : Int) (l : D.length < 16777216) : setAny (HS ns D) (.ref 1) (.int p) (.int x) = some (HS ns (put D p x)) := by
  have e : setD (HS ns D) (.ref 1) (.int p) (.int x) = some (HS ns (put D p x)) := by
    show (if (kz D).length < 16777216 then some ((HS ns D).set 1 (.dcK (putKv (.int p) (.int x) (kz D)))) else none) = _
    rw [if_pos (by rw [List.length_map]; exact l), put_kz]
    rfl
  unfold setAny
  exact e
/-- one game -/
theorem look {i : Nat} {u l c : Int} {D : List (Int × Int)} (eg : G[i]? = some (gmV u l)) (ul : u ≠ l) (su : S D u = c) (sl : S D l = c) (x6 x7 x8 x9 x10 : Option Val) (ld : D.length < 10000000) :
    (c ≠ 12 → l__law_shows_0 (EV G (some (.int (i : Int))) x6 x7 x8 x9 x10) (HS ns D) = .nx (EV G (some (.int (i : Int))) (some (.int u)) (some (.int l)) (some (.str "upper")) (some (.int c)) (some (.int c))) (HS ns (put (put D u (c + 1)) l c))) ∧
    (c = 12 → i + 1 = G.length → l__law_shows_0 (EV G (some (.int (i : Int))) x6 x7 x8 x9 x10) (HS ns D) = .rt (.bl true) (HS ns D)) := by
  have a1 : sAsg (gT [6, 7, 8]) (eBin oIx (eVar 2) (eVar 5)) (EV G (some (.int (i : Int))) x6 x7 x8 x9 x10) (HS ns D) = .nx (EV G (some (.int (i : Int))) (some (.int u)) (some (.int l)) (some (.str "upper")) x9 x10) (HS ns D) := by
    have q : eBin oIx (eVar 2) (eVar 5) (EV G (some (.int (i : Int))) x6 x7 x8 x9 x10) (HS ns D) = .ok (gmV u l) (HS ns D) := bin_ok (d := .lst G) (d2 := .int (i : Int)) rfl rfl (atI_get eg)
    unfold sAsg
    rw [q]
    rfl
  have a2 : sPar [9, 10] (aCons (eDGet2 (eVar 4) (eVar 6) (eC (.int 0))) (aCons (eDGet2 (eVar 4) (eVar 7) (eC (.int 0))) aNil)) (EV G (some (.int (i : Int))) (some (.int u)) (some (.int l)) (some (.str "upper")) x9 x10) (HS ns D) = .nx (EV G (some (.int (i : Int))) (some (.int u)) (some (.int l)) (some (.str "upper")) (some (.int c)) (some (.int c))) (HS ns D) := by
    have q1 := get_S (ns := ns) D (k := 6) (e := EV G (some (.int (i : Int))) (some (.int u)) (some (.int l)) (some (.str "upper")) x9 x10) (p := u) rfl rfl
    have q2 := get_S (ns := ns) D (k := 7) (e := EV G (some (.int (i : Int))) (some (.int u)) (some (.int l)) (some (.str "upper")) x9 x10) (p := l) rfl rfl
    rw [su] at q1
    rw [sl] at q2
    unfold sPar
    rw [acons_ok q1 (acons_ok q2 rfl)]
    rfl
  have a3 : eOr (eBin oEq (eVar 6) (eVar 7)) (eOr (eBin oNe (eVar 9) (eVar 10)) (eBin oNe (eVar 8) (eC (.str "upper")))) (EV G (some (.int (i : Int))) (some (.int u)) (some (.int l)) (some (.str "upper")) (some (.int c)) (some (.int c))) (HS ns D) = .ok (.bl false) (HS ns D) := by
    refine or_no (h1 := HS ns D) ?_ (or_no (h1 := HS ns D) ?_ ?_)
    · refine (bin_ok (d := .int u) (d2 := .int l) (h1 := HS ns D) (h2 := HS ns D) (d3 := .bl (decide (u = l))) rfl rfl (by rw [Lad.op_eq, eq_int]; rfl)).trans ?_
      rw [decide_eq_false ul]
    · refine (bin_ok (d := .int c) (d2 := .int c) (h1 := HS ns D) (h2 := HS ns D) (d3 := .bl (!decide (c = c))) rfl rfl ?_).trans ?_
      · unfold oNe
        rw [eq_int]
        rfl
      · rw [decide_eq_true rfl]; rfl
    · kernel_rfl
  have a4 : eBin oEq (eVar 9) (eVar 1) (EV G (some (.int (i : Int))) (some (.int u)) (some (.int l)) (some (.str "upper")) (some (.int c)) (some (.int c))) (HS ns D) = .ok (.bl (decide (c = 12))) (HS ns D) := bin_ok (d := .int c) (d2 := .int 12) (h1 := HS ns D) (h2 := HS ns D) rfl rfl (by rw [Lad.op_eq, eq_int]; rfl)
  constructor
  · intro c12
    rw [decide_eq_false c12] at a4
    unfold l__law_shows_0
    refine seq_nx a1 (seq_nx a2 (seq_if_no a3 (seq_if_no a4 ?_)))
    have t1 : eBin oAdd (eVar 9) (eC (.int 1)) (EV G (some (.int (i : Int))) (some (.int u)) (some (.int l)) (some (.str "upper")) (some (.int c)) (some (.int c))) (HS ns D) = .ok (.int (c + 1)) (HS ns D) := rfl
    have tt : eTup (aCons (eBin oAdd (eVar 9) (eC (.int 1))) (aCons (eVar 10) aNil)) (EV G (some (.int (i : Int))) (some (.int u)) (some (.int l)) (some (.str "upper")) (some (.int c)) (some (.int c))) (HS ns D) = .ok (.tup [.int (c + 1), .int c]) (HS ns D) := tup_ok (ds := [.int (c + 1), .int c]) (acons_ok t1 (acons_ok rfl rfl)) (by simp)
    have p1 := setD_S (ns := ns) D u (c + 1) (by omega)
    have p2 := setD_S (ns := ns) (put D u (c + 1)) l c (by have := put_len D u (c + 1); omega)
    have pa : putAll [((eVar 4), (eVar 6)), ((eVar 4), (eVar 7))] [.int (c + 1), .int c] (EV G (some (.int (i : Int))) (some (.int u)) (some (.int l)) (some (.str "upper")) (some (.int c)) (some (.int c))) (HS ns D) = .ok .non (HS ns (put (put D u (c + 1)) l c)) := by
      show (match setAny (HS ns D) (.ref 1) (.int u) (.int (c + 1)) with | some h3 => putAll [((eVar 4), (eVar 7))] [.int c] (EV G (some (.int (i : Int))) (some (.int u)) (some (.int l)) (some (.str "upper")) (some (.int c)) (some (.int c))) h3 | none => .stuck) = _
      rw [p1]
      show (match setAny (HS ns (put D u (c + 1))) (.ref 1) (.int l) (.int c) with | some h3 => putAll [] [] (EV G (some (.int (i : Int))) (some (.int u)) (some (.int l)) (some (.str "upper")) (some (.int c)) (some (.int c))) h3 | none => .stuck) = _
      rw [p2]
      rfl
    unfold sPutT
    rw [tt, ap_bindOk]
    dsimp only
    rw [if_pos (by rfl), pa]
    rfl
  · intro c12 len
    rw [decide_eq_true c12] at a4
    unfold l__law_shows_0
    refine seq_nx a1 (seq_nx a2 (seq_if_no a3 (Sp.seq_rt (if_yes a4 (ret_ok ?_)))))
    have e1 : eBin oEq (eVar 5) (eBin oSub (eIt gLen (eVar 2)) (eC (.int 1))) (EV G (some (.int (i : Int))) (some (.int u)) (some (.int l)) (some (.str "upper")) (some (.int c)) (some (.int c))) (HS ns D) = .ok (.bl true) (HS ns D) := by
      have sb : eBin oSub (eIt gLen (eVar 2)) (eC (.int 1)) (EV G (some (.int (i : Int))) (some (.int u)) (some (.int l)) (some (.str "upper")) (some (.int c)) (some (.int c))) (HS ns D) = .ok (.int ((G.length : Nat) - 1 : Int)) (HS ns D) := bin_ok (d := .int (G.length : Nat)) (d2 := .int 1) (h1 := HS ns D) (h2 := HS ns D) rfl rfl rfl
      refine (bin_ok (d := .int (i : Int)) (h1 := HS ns D) (h2 := HS ns D) (d3 := .bl (decide ((i : Int) = (G.length : Nat) - 1))) rfl sb (by rw [Lad.op_eq, eq_int]; rfl)).trans ?_
      rw [decide_eq_true (by omega)]
    rw [v14, e1, v00, v15]
    kernel_rfl
end
end K81
end
section
set_option maxRecDepth 100000
set_option maxHeartbeats 4000000
namespace K81
open PySem L2 Lad Bk Cl Dk
def seg (i n : Nat) : List Val := (List.range' i n).map fun (j : Nat) => Val.int (j : Int)
theorem seg_add (i a b : Nat) : seg i (a + b) = seg i a ++ seg (i + a) b := by
  unfold seg
  rw [← List.map_append]
  congr 1
  have := List.range'_append (s := i) (m := a) (n := b) (step := 1)
  rw [Nat.one_mul] at this
  exact this.symm
theorem seg_one (i : Nat) : seg i 1 = [.int (i : Int)] := rfl
theorem get_mid {A B C : List Val} {v : Val} {G : List Val} (e : G = A ++ (B ++ v :: C)) : G[A.length + B.length]? = some v := by
  rw [e, List.getElem?_append_right (by omega), List.getElem?_append_right (by omega), show A.length + B.length - A.length - B.length = 0 by omega]
  rfl
section
variable {ns : List Int} {G : List Val}
theorem seg_ok : ∀ (r : Nat), r ≤ 11 → ∀ (N : Int) (i : Nat) (D : List (Int × Int)) (A B : List Val), G = A ++ (P r N ++ B) → A.length = i → (∀ p, N ≤ p → p < N + 2 ^ (r + 1) → S D p = 0) → D.length + 2 * (P r N).length < 1000000 → ∀ x5 x6 x7 x8 x9 x10 : Option Val,
    ∃ D' y5 y6 y7 y8 y9 y10, (∀ rest, forL (gN 5) l__law_shows_0 (seg i (P r N).length ++ rest) (EV G x5 x6 x7 x8 x9 x10) (HS ns D) = forL (gN 5) l__law_shows_0 rest (EV G y5 y6 y7 y8 y9 y10) (HS ns D')) ∧ S D' N = (r : Int) + 1 ∧ (∀ p, p < N ∨ N + 2 ^ (r + 1) ≤ p → S D' p = S D p) ∧ D'.length ≤ D.length + 2 * (P r N).length := by
  intro r
  induction r with
  | zero =>
    intro _ N i D A B eG ei z ld x5 x6 x7 x8 x9 x10
    have eg : G[i]? = some (gmV N (N + 1)) := by
      have := get_mid (A := A) (B := []) (C := B) (v := gmV N (N + 1)) (G := G) eG
      rw [List.length_nil, Nat.add_zero, ei] at this
      exact this
    have z0 := z N (by omega) (by show N < N + 2; omega)
    have z1 := z (N + 1) (by omega) (by show N + 1 < N + 2; omega)
    have lk := (look (ns := ns) eg (show N ≠ N + 1 by omega) z0 z1 x6 x7 x8 x9 x10 (by have : (P 0 N).length = 1 := rfl; omega)).1 (by decide)
    have l1 := put_len D N (0 + 1)
    have l2 := put_len (put D N (0 + 1)) (N + 1) 0
    refine ⟨put (put D N (0 + 1)) (N + 1) 0, _, _, _, _, _, _, fun rest => for_cons (e1 := EV G (some (.int (i : Int))) x6 x7 x8 x9 x10) rfl lk, ?_, fun p hp => ?_, by have : (P 0 N).length = 1 := rfl; omega⟩
    · rw [S_put, if_neg (by omega), S_put, if_pos rfl]
      rfl
    · have hp : p < N ∨ N + 2 ≤ p := hp
      rw [S_put, if_neg (by omega), S_put, if_neg (by omega)]
  | succ r ih =>
    intro hr N i D A B eG ei z ld x5 x6 x7 x8 x9 x10
    obtain ⟨M, hM⟩ : ∃ M : Int, M = 2 ^ (r + 1) := ⟨_, rfl⟩
    have e2 : (2 : Int) ^ (r + 1 + 1) = M + M := by rw [Int.pow_succ, ← hM]; omega
    have M0 : 0 < M := by rw [hM]; exact Int.pow_pos (by decide)
    have eP : P (r + 1) N = P r N ++ P r (N + M) ++ [gmV N (N + M)] := by rw [hM]; rfl
    rw [e2] at z ⊢
    have lP : (P (r + 1) N).length = (P r N).length + (P r (N + M)).length + 1 := by rw [eP, List.length_append, List.length_append, List.length_singleton]
    rw [lP] at ld ⊢
    obtain ⟨D1, a5, a6, a7, a8, a9, a10, f1, s1, o1, l1⟩ := ih (by omega) N i D A (P r (N + M) ++ [gmV N (N + M)] ++ B) (by rw [eG, eP]; simp only [List.append_assoc]) ei (fun p h1 h2 => z p h1 (by rw [← hM] at h2; omega)) (by omega) x5 x6 x7 x8 x9 x10
    rw [← hM] at o1
    obtain ⟨D2, b5, b6, b7, b8, b9, b10, f2, s2, o2, l2⟩ := ih (by omega) (N + M) (i + (P r N).length) D1 (A ++ P r N) ([gmV N (N + M)] ++ B) (by rw [eG, eP]; simp only [List.append_assoc]) (by rw [List.length_append, ei]) (fun p h1 h2 => by
      rw [← hM] at h2
      rw [o1 p (.inr h1)]
      exact z p (by omega) (by omega)) (by omega) a5 a6 a7 a8 a9 a10
    rw [← hM] at o2
    have eg : G[i + (P r N).length + (P r (N + M)).length]? = some (gmV N (N + M)) := by
      have := get_mid (A := A) (B := P r N ++ P r (N + M)) (C := B) (v := gmV N (N + M)) (G := G) (by rw [eG, eP]; simp only [List.append_assoc, List.singleton_append])
      rw [List.length_append, ei, ← Nat.add_assoc] at this
      exact this
    have u0 : S D2 N = (r : Int) + 1 := by rw [o2 N (.inl (by omega)), s1]
    have lk := (look (ns := ns) eg (show N ≠ N + M by omega) u0 s2 b6 b7 b8 b9 b10 (by omega)).1 (by omega)
    have l3 := put_len D2 N ((r : Int) + 1 + 1)
    have l4 := put_len (put D2 N ((r : Int) + 1 + 1)) (N + M) ((r : Int) + 1)
    refine ⟨put (put D2 N ((r : Int) + 1 + 1)) (N + M) ((r : Int) + 1), some (.int ((i + (P r N).length + (P r (N + M)).length : Nat) : Int)), some (.int N), some (.int (N + M)), some (.str "upper"), some (.int ((r : Int) + 1)), some (.int ((r : Int) + 1)), fun rest => ?_, ?_, fun p hp => ?_, by omega⟩
    · rw [seg_add, seg_add, seg_one, List.append_assoc, List.append_assoc, f1, f2, ← Nat.add_assoc i]
      exact for_cons (e1 := EV G (some (.int ((i + (P r N).length + (P r (N + M)).length : Nat) : Int))) b6 b7 b8 b9 b10) rfl lk
    · rw [S_put, if_neg (by omega), S_put, if_pos rfl]
      omega
    · rw [S_put, if_neg (by omega), S_put, if_neg (by omega), o2 p (by omega), o1 p (by omega)]
end
theorem shows12 (ns : List Int) : c__law_shows [.tup [.lst (P 12 0), .str "ratings"], .int 12] [.fro ns] = .ok (.bl true) [.fro ns] := by
  have e4 : (0 : Int) + 2 ^ (11 + 1) = 4096 := by decide
  have eP : P (11 + 1) 0 = P 11 0 ++ P 11 (0 + 2 ^ (11 + 1)) ++ [gmV 0 (0 + 2 ^ (11 + 1))] := by
    conv => lhs; unfold P
  rw [e4] at eP
  have eP : P 12 0 = P 11 0 ++ P 11 4096 ++ [gmV 0 4096] := eP
  have l1 := P_len 11 0
  have l2 := P_len 11 4096
  have l1 : (P 11 0).length + 1 = 4096 := l1
  have l2 : (P 11 4096).length + 1 = 4096 := l2
  have lG : (P 12 0).length = (P 11 0).length + (P 11 4096).length + 1 := by rw [eP, List.length_append, List.length_append, List.length_singleton]
  generalize hG : P 12 0 = G at *
  obtain ⟨D1, a5, a6, a7, a8, a9, a10, f1, s1, o1, m1⟩ := seg_ok (ns := ns) (G := G) 11 (by decide) 0 0 [] [] (P 11 4096 ++ [gmV 0 4096]) (by rw [eP, List.nil_append, List.append_assoc]) rfl (fun p _ _ => rfl) (by show 0 + 2 * (P 11 0).length < 1000000; omega) none none none none none none
  have m1 : D1.length ≤ 0 + 2 * (P 11 0).length := m1
  obtain ⟨D2, b5, b6, b7, b8, b9, b10, f2, s2, o2, m2⟩ := seg_ok (ns := ns) (G := G) 11 (by decide) 4096 (0 + (P 11 0).length) D1 (P 11 0) [gmV 0 4096] (by rw [eP, List.append_assoc]) (by omega) (fun p h1 _ => by
    rw [o1 p (.inr h1)]
    rfl) (by omega) a5 a6 a7 a8 a9 a10
  have o1 : ∀ p : Int, p < 0 ∨ 4096 ≤ p → S D1 p = S [] p := o1
  generalize P 11 0 = A1 at *
  generalize P 11 4096 = A2 at *
  have eg : G[0 + A1.length + A2.length]? = some (gmV 0 4096) := by
    have := get_mid (A := []) (B := A1 ++ A2) (C := []) (v := gmV 0 4096) (G := G) (by rw [eP, List.nil_append])
    rw [List.length_append, List.length_nil, ← Nat.add_assoc] at this
    exact this
  have u0 : S D2 0 = 12 := by
    rw [o2 0 (.inl (by decide)), s1]
    rfl
  have v0 : S D2 4096 = 12 := by
    rw [s2]
    rfl
  have lk := (look (ns := ns) eg (show (0 : Int) ≠ 4096 by decide) u0 v0 b6 b7 b8 b9 b10 (by omega)).2 rfl (by omega)
  have lp : forL (gN 5) l__law_shows_0 (rangeV 0 G.length) (EV G none none none none none none) (HS ns []) = .rt (.bl true) (HS ns D2) := by
    have er : rangeV 0 G.length = seg 0 G.length := by
      unfold rangeV seg
      rw [List.range_eq_range']
      refine List.map_congr_left fun j _ => ?_
      show Val.int (0 + (j : Int)) = Val.int (j : Int)
      rw [Int.zero_add]
    rw [er, lG, seg_add, seg_add, seg_one, List.append_assoc, f1, f2]
    unfold forL
    show (match l__law_shows_0 (EV G (some (.int ((0 + (A1.length + A2.length) : Nat) : Int))) b6 b7 b8 b9 b10) (HS ns D2) with | .nx e2 h2 => _ | .ct e2 h2 => _ | .bk e2 h2 => _ | r => r) = _
    rw [show 0 + (A1.length + A2.length) = 0 + A1.length + A2.length by omega, lk]
  have fe : fin [.fro ns] (.bl true) (HS ns D2) = .ok (.bl true) [.fro ns] := fin_new rfl rfl rfl
  clear lk f1 f2 o1 o2 eg
  show runB 2 11 b__law_shows [.tup [.lst G, .str "ratings"], .int 12] [.fro ns] = _
  refine Eq.trans (run_rt (fn := fin) (np := 2) (ns := 11) (b := b__law_shows) (ds := [.tup [.lst G, .str "ratings"], .int 12]) (h := [.fro ns]) (d := .bl true) (h' := HS ns D2) rfl ?_) fe
  unfold b__law_shows
  refine seq_nx (e1 := [some (.tup [.lst G, .str "ratings"]), some (.int 12), some (.lst G), some (.str "ratings"), none, none, none, none, none, none, none]) (h1 := [.fro ns]) rfl ?_
  refine seq_set (d := .ref 1) (h1 := HS ns []) rfl ?_
  refine Sp.seq_rt ?_
  have src : iRng1V (aCons (eIt gLen (eVar 2)) aNil) (EV G none none none none none none) (HS ns []) = .ok (srcFix (rangeV 0 G.length)) (HS ns []) := by
    have ok : rngOk ((G.length : Nat) : Int) = true := by
      unfold rngOk
      rw [decide_eq_true_eq]
      omega
    have ln : eIt gLen (eVar 2) (EV G none none none none none none) (HS ns []) = .ok (.int (G.length : Nat)) (HS ns []) := rfl
    unfold iRng1V
    rw [acons_ok ln rfl, ap_bindOk]
    dsimp only
    rw [if_pos ok, Int.toNat_natCast]
  show sFor _ _ _ (EV G none none none none none none) (HS ns []) = _
  rw [for_eq src]
  exact lp
end K81
end
section
set_option maxRecDepth 100000
set_option maxHeartbeats 4000000
namespace K81
open PySem L2 Lad
theorem told22 (ns : List Int) : c__law_told_games [BV 22, BV 23] [.fro ns] = .ok (.int 20000) [.fro ns] := by
  kernel_rfl
end K81
end
section
set_option maxRecDepth 100000
set_option maxHeartbeats 4000000
namespace K81
open PySem L2 Lad
theorem far_ok (ns : List Int) : c__law_far_right [] [.fro ns] = .ok (.bl true) [.fro ns] := by
  have a := alike22 ns
  have t := told22 ns
  have u := unlike12 ns
  have s := shows12 ns
  have m := made22 ns
  have m12 := made12 ns 12 (.inl rfl) (some (BV 22)) (some (BV 23)) (some (.int 20000))
  have m13 := made12 ns 13 (.inr rfl) (some (BV 22)) (some (BV 23)) (some (.int 20000))
  generalize P 12 0 = G at u s
  refine (run_rt (fn := fin) (np := 0) (ns := 4) (b := b__law_far_right) (ds := []) (d := .bl true) (h' := [.fro ns]) rfl ?_).trans (fin_same _ _)
  unfold b__law_far_right
  refine seq_set (d := rowsL) (h1 := [.fro ns]) rfl ?_
  refine seq_nx m ?_
  refine seq_if_no (h1 := [.fro ns]) (bin_ok (d := .bl false) (d2 := .bl false) (h1 := [.fro ns]) (h2 := [.fro ns]) (call_eq (ds := [BV 22, BV 23, .int 0]) (h1 := [.fro ns]) rfl a) rfl rfl) ?_
  refine seq_set (d := .int 20000) (h1 := [.fro ns]) (call_eq (ds := [BV 22, BV 23]) (h1 := [.fro ns]) rfl t) ?_
  have e1 : eBin oNe (eVar 3) (eC (.int 20000)) [some rowsL, some (BV 22), some (BV 23), some (.int 20000)] [.fro ns] = .ok (.bl false) [.fro ns] := by kernel_rfl
  have e2 : eAnd (eBin oNe (eVar 3) (eC (.int 20000))) (eOr (eUn (oIsi [.int]) (eVar 3)) (eUn oNot (eCall c__law_shows (aCons (eVar 3) (aCons (eC (.int 22)) aNil))))) [some rowsL, some (BV 22), some (BV 23), some (.int 20000)] [.fro ns] = .ok (.bl false) [.fro ns] := by
    rw [v14, e1, v00, v16]
  refine seq_if_no e2 (ret_ok ?_)
  have f : eCall c_first_unlike (aCons (eMakeKd [0, 1, 2, 3, 4, 5, 6] [(.int 0), (.int 1), (.int 0)] 3 0 30 c_Book___init__ (aCons (eC (.int 0)) (aCons (eC (.int 12)) (aCons (eVar 0) aNil))) aNil) (aCons (eMakeKd [0, 1, 2, 3, 4, 5, 6] [(.int 0), (.int 1), (.int 0)] 3 0 30 c_Book___init__ (aCons (eC (.int 0)) (aCons (eC (.int 13)) (aCons (eVar 0) aNil))) aNil) (aCons (eC (.int 0)) aNil))) [some rowsL, some (BV 22), some (BV 23), some (.int 20000)] [.fro ns] = .ok (.tup [.lst G, .str "ratings"]) [.fro ns] :=
    call_eq (ds := [BV 12, BV 13, .int 0]) (h1 := [.fro ns]) (acons_ok m12 (acons_ok m13 rfl)) u
  exact call_eq (ds := [.tup [.lst G, .str "ratings"], .int 12]) (h1 := [.fro ns]) (acons_ok f rfl) s
end K81
end
section
set_option maxRecDepth 100000
set_option maxHeartbeats 4000000
namespace K81
open PySem L2 Lad
theorem call0 {cf : List Val → Hea → Res Val} {e : En} {h : Hea} {r : Res Val} (q : cf [] h = r) : eCall0 cf e h = r := q
theorem plain : Plain := by
  intro ns hl
  refine ⟨[.fro ns], (run_rt (fn := fin) (d := .bl true) (h' := [.fro ns]) rfl ?_).trans (fin_same _ _)⟩
  unfold b_law
  have e0 : sIf (eUn oNot (eCall0 c__law_far_right)) (sRet (eC (.bl false))) sNil (startE 9 [.ref 0]) [.fro ns] = .nx (startE 9 [.ref 0]) [.fro ns] := by
    exact if_no (not_ok (b := true) (call0 (far_ok ns)))
  refine seq_nx (e1 := startE 9 [.ref 0]) (h1 := [.fro ns]) e0 ?_
  refine seq_nx (e1 := startE 9 [.ref 0]) (h1 := [.fro ns]) ?_ rfl
  refine cell_loop ns 2 (by decide) (by decide) rfl fun k hk => ?_
  obtain ⟨e, h, eb, el⟩ := body ns k (by omega)
  exact ⟨[some (.ref 0), some (.int k), none, none, none, none, none, none, none], e, h, rfl, eb, el⟩
end K81
end
theorem PySem.Challenge.cw_liftedladders_k81_books_alike_refused_holds : PySem.Challenge.rw_liftedladders_k81_books_alike_refused.Holds :=
  K81.holds_of K81.plain
