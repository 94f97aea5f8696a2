import PyProof.Rows.All
import Wide.All
import Wide.FinOn
import HandS.TupAny
import HandS.TupMul
import HandS.Iter
import KE.GoesEnum
import KE.GoesZip
import KE.GoesMore
import HandS.ForMost
import HandS.ForExc
import HandS.Wide
import HandS.Style
import HandS.Flow
import HandS.Deep
import HandS.TupLe
import HandS.IsInst
import HandS.Star
import HandS.Dict
import KE.KDictKeyed
import KE.KeyNested
import HandS.RaiseMore
import HandS.WordsExc
import KE.KExcSuper
import PyProof.ExcBaseAll.LookupError
import HandS.ExcField
import HandS.ExcIs
import KE.KExcIs
import HandS.HeadHook2
import OpenK.KDescr
import HandS.Zip
import HandS.List
import KE.KCallOwn
import HandS.SlotsOwn
import HandS.Head0
import HandS.Head1
import HandS.Head2
import HandS.HeadEnd
import HandS.Strs
import HandS.MakeKwOnly
import HandS.GenList
import HandS.TryMany
import HandS.Conv
import HandS.SetBool
import KE.KDictZip
import HandS.NoneIn
import KE.KRevSl
import HandS.DictComp
import KE.KDictCopyH
import KE.KDictDisplayH
import PyProof.ReprRoads
import KE.DataFind
import PySem.Challenge.RW_liftedladders_k41_whole_plays_of_duels
set_option Elab.async false
set_option linter.all false
section
set_option maxRecDepth 100000
set_option maxHeartbeats 2000000
namespace L2
open PySem PySem.Spec PyProof.Rows
/-- a new tuple's object -/
abbrev tuO (us : List Value) : Obj := { cls := .type "tuple", data := .seq us.toArray }
section
variable {X : Cx} {pins : List (Addr × Obj)} {σ : St} {H : Hp} {s : Shared} {ys : List V} {us : List Value}
theorem Inv.newTup {tk : Nat} (J : Inv X pins σ H s) (r : Vals ys us) (z : ys.length ≤ sizeLine) : Inv X pins σ (upd H s.heap.objs.size (.frz (tuO us) (.tup ys))) { s with heap := s.heap.push (tuO us), toks := tk } :=
  J.laid (fun c o w => Heap.get?_push_of_some _ w) (Nat.le_refl _) ⟨Heap.get?_push_size _ rfl, z, us, r, IsTup.new _ _⟩
theorem Inv.free0 (J : Inv X pins σ H s) : H s.heap.objs.size = none := J.hok.fresh (Nat.le_refl _)
end
/-- what is wanted of a new tuple -/
def NewT (H : Hp) (ys : List V) (Q : VK) : Prop := ∀ (p : Addr) (ob : Obj), H p = none → ob.dict = none → Q (.ref p) (upd H p (.frz ob (.tup ys)))
section
variable {X : Cx} {es : List Expr} {t : TA} {pos : Pos}
def tTupS (t : TA) : TE := fun σ H Q => t σ H fun ys H1 => ys.length ≤ sizeLine ∧ NewT H1 ys Q
theorem pe_tupS {x1} (a : PA X es t) : PE X (.Tuple es x1 pos) (tTupS t) := ⟨fun pins s σ H Q J w => by
  refine wpAny_Tuple_spliced (thn (a.run pos pins s σ H _ J w) fun us s1 z => ?_)
  obtain ⟨ys, H1, J1, r, l, q⟩ := z
  exact ⟨by rw [← r.length]; exact l, .ref s1.heap.objs.size, _, J1.newTup r l, rfl, q _ _ J1.free0 rfl⟩⟩
theorem call_tupleS : CallR X (.type "tuple") (fun zs H Q => ∃ p ys, zs = [.ref p] ∧ ((SqL X.K H p ys ∧ NewT H ys Q) ∨ (SqT X.K H p ys ∧ Q (.ref p) H))) := by
  rintro pins s σ H zs us Q J r ⟨p, ys, rfl, w⟩
  obtain ⟨u, rfl, e⟩ := vals1 r
  cases e
  rcases w with ⟨sq, q⟩ | ⟨sq, q⟩
  · obtain ⟨its, v, pl, z⟩ := J.list sq
    have n := v.length
    refine call_tuple_list pl.isList (fun g kp => ?_) (by rw [List.size_toArray]; omega)
    have J1 : Inv X pins σ H { s with heap := g } := J.kept (t' := s.toks) kp
    exact ⟨.ref g.objs.size, _, J1.newTup (tk := s.toks) v z, rfl, q _ _ J1.free0 rfl⟩
  · obtain ⟨its, v, pl, z⟩ := J.tuple sq
    exact call_tuple_same pl ⟨.ref p, H, J, rfl, q⟩
def rSlZ (K : PySem.W.Frag) : V → Option Int → Option Int → Hp → VK → Prop := fun x lo hi H Q => ∃ a ys, x = .ref a ∧ SqT K H a ys ∧
  ((HT.sIx ys.length 0 lo = 0 ∧ HT.sIx ys.length ys.length hi = ys.length) → Q (.ref a) H) ∧ (¬ (HT.sIx ys.length 0 lo = 0 ∧ HT.sIx ys.length ys.length hi = ys.length) → NewT H (cutV ys lo hi) Q)
theorem sl_tupS : SlR X (rSlZ X.K) := by
  rintro pins s σ H x v vl vu lo hi sl Q J e hs pl pu ⟨a, ys, rfl, sq, q1, q2⟩
  cases e
  obtain ⟨its, r, ht, z⟩ := J.tuple sq
  have n : its.toArray.size = ys.length := by rw [List.size_toArray, ← r.length]
  refine ⟨"tuple", _, PyProof.Rows.slot_tuple_getitem.lookup, ht.typeIs, ?_⟩
  by_cases w : HT.sIx ys.length 0 lo = 0 ∧ HT.sIx ys.length ys.length hi = ys.length
  · exact getItem_tuple_whole ht hs pl pu (n ▸ w) ⟨.ref a, H, J, rfl, q1 w⟩
  · refine HT.getItem_tuple_cut ht hs pl pu (n ▸ w) ?_ (n ▸ z)
    rw [n]
    have r' : Vals (cutV ys lo hi) _ := (r.drop (HT.sIx ys.length 0 lo)).take (HT.sIx ys.length ys.length hi - HT.sIx ys.length 0 lo)
    exact ⟨.ref s.heap.objs.size, _, J.newTup (tk := s.toks) r' (Nat.le_trans (cutV_length ys lo hi) z), rfl, q2 w _ _ J.free0 rfl⟩
def rCatS (K : PySem.W.Frag) : R2 := fun x y H Q => ∃ a b ps qs, x = .ref a ∧ y = .ref b ∧ SqT K H a ps ∧ SqT K H b qs ∧ ps.length + qs.length ≤ sizeLine ∧
  (ps = [] → Q (.ref b) H) ∧ (ps ≠ [] → qs = [] → Q (.ref a) H) ∧ (ps ≠ [] → qs ≠ [] → NewT H (ps ++ qs) Q)
theorem op_catS : OpR X (binaryOp .Add) (rCatS X.K) := by
  rintro pins s σ H x y v u Q J e1 e2 ⟨a, b, ps, qs, rfl, rfl, sa, sb, z, q0, q1, q2⟩
  cases e1
  cases e2
  obtain ⟨us, r1, p1, _⟩ := J.tuple sa
  obtain ⟨ws, r2, p2, _⟩ := J.tuple sb
  by_cases n1 : ps = []
  · subst n1
    cases r1
    exact cat_tup0 p1 p2 ⟨.ref b, H, J, rfl, q0 rfl⟩
  · refine HT.cat_tup p1 p2 (fun w => n1 (r1.nil_iff.mp w)) (fun w => ⟨.ref a, H, J, rfl, q1 n1 (r2.nil_iff.mp w)⟩) (fun w => ?_) (by rw [← r1.length, ← r2.length]; exact z)
    exact ⟨.ref s.heap.objs.size, _, J.newTup (tk := s.toks) (r1.append r2) (by rw [List.length_append]; exact z), rfl, q2 n1 (fun k => w (r2.nil_iff.mpr k)) _ _ J.free0 rfl⟩
end
end L2
end
section
set_option maxRecDepth 100000
set_option maxHeartbeats 1000000
namespace Lad
open PySem L2
/-- lst, dic, obj: a list, a dict, an instance that nothing changes any more; ref: one of the evaluator's heap -/
inductive Val where
  | non | bl (b : Bool) | int (i : Int) | str (s : Str) | tup (xs : List Val) | lst (xs : List Val) | dic (t : Bool) (ks vs : List Val) | obj (c : Nat) (ns : List Nat) (vs : List Val) | ref (i : Nat) | exn (c : Nat) (d : Val)
inductive Ob where
  | lst (xs : List Val) | fro (ns : List Int) | dcK (kvs : List (Val × Val)) | dcT (kvs : List (Val × Val)) | ins (c : Nat) (fs : List (Nat × Val)) | dcL (kvs : List (Val × Val)) | dcM (kvs : List (Val × Val))
abbrev Hea := List Ob
abbrev En := List (Option Val)
inductive Res (α : Type) where
  | ok (a : α) (h : Hea) | exc (c : Nat) (d : Val) (h : Hea) | stuck
def Res.bind {α β : Type} (r : Res α) (k : α → Hea → Res β) : Res β := match r with
  | .ok a h => k a h
  | .exc c d h => .exc c d h
  | .stuck => .stuck
/-- the end of a statement -/
inductive SRes where
  | nx (e : En) (h : Hea) | rt (v : Val) (h : Hea) | bk (e : En) (h : Hea) | ct (e : En) (h : Hea) | exc (c : Nat) (d : Val) (e : En) (h : Hea) | stuck
/-- what the program's top has made: the written part, the classes' addresses, the names of attributes, the field of an exception class -/
structure Sy where
  K : PySem.W.Frag
  ca : Nat → Addr
  nm : Nat → Str
  fld : Nat → Str
  /-- the program, the world (for the hashes of keys) -/
  P : Program
  w : World
  /-- the error that is handled: where it is, its class, its dict -/
  ex : Option (Addr × Nat × Addr)
/-- what the evaluator's heap holds: by numbers; hidden (being made) -/
structure Own where
  nm : List Addr
  hd : List Addr
def Own.add (ρ : Own) (p : Addr) : Own := ⟨ρ.nm ++ [p], ρ.hd⟩
def Own.hide (ρ : Own) (p : Addr) : Own := ⟨ρ.nm, p :: ρ.hd⟩
def Off (ρ : Own) (a : Addr) : Prop := ∀ i : Nat, ρ.nm[i]? ≠ some a
/-- neither held nor being made -/
def Fz (ρ : Own) (a : Addr) : Prop := Off ρ a ∧ a ∉ ρ.hd
def keyVal : Key → Val
  | .inl i => .int i
  | .inr s => .str s
abbrev kvK : Key → Val := keyVal
/-- a key that is a tuple: as deep as n -/
def nkAll (f : Val → Option NestedKey) : List Val → Option (List NestedKey)
  | [] => some []
  | d :: ds => match f d, nkAll f ds with
    | some k, some ks => some (k :: ks)
    | _, _ => none
def nkF : Nat → Val → Option NestedKey
  | n + 1, .tup xs => (nkAll (nkF n) xs).map .tup
  | _, .int i => some (.num i)
  | _, .bl b => some (.num (if b = true then 1 else 0))
  | _, .str x => some (.text x)
  | _, .non => some .none
  | _, _ => none
def toNK : Val → Option NestedKey
  | .tup xs => nkF 8 (.tup xs)
  | _ => none
/-- a dict whose keys are tuples: the keys, where their tuples stand, the values -/
def dnO (P : Program) (w : World) (a : Addr) (ps : List (NestedKey × Addr × V)) : HO := .ext fun h => ps.length ≤ sizeLine ∧ (a == sysModules) = false ∧
  ∃ xs : List (NestedKey × Addr × Value), Paired (fun (p : NestedKey × Addr × V) (q : NestedKey × Addr × Value) => p.1 = q.1 ∧ p.2.1 = q.2.1 ∧ RelV p.2.2 q.2.2) ps xs ∧
    ∃ o es ep, h.get? a = some o ∧ o.ExactDict ∧ o.data = .dict es ep ∧ es.toList = xs.map (entryOfKey (nestedKind P w)) ∧ (xs.map (·.1)).Nodup
/-- a dict -/
def IsDi (o : HO) : Prop := (∃ ps, o = .dK ps) ∨ ∃ P w a ps, o = dnO P w a ps
/-- sealed, or as it was -/
def Sl (o o' : HO) : Prop := o' = o ∨ (IsDi o ∧ ∃ ob, o' = .frz ob o)
theorem Sl.rfl {o : HO} : Sl o o := .inl (Eq.refl _)
theorem isDi_frz {o : HO} {ob : Obj} : ¬ IsDi (.frz ob o) := fun h => by
  rcases h with ⟨_, e⟩ | ⟨_, _, _, _, e⟩
  · cases e
  · unfold dnO at e; cases e
theorem Sl.trans {a b c : HO} (h : Sl a b) (k : Sl b c) : Sl a c := by
  rcases h with rfl | ⟨i, ob, rfl⟩
  · exact k
  · rcases k with rfl | ⟨j, _⟩
    · exact .inr ⟨i, ob, Eq.refl _⟩
    · exact (isDi_frz j).elim
theorem Sl.lst {xs : List V} {o : HO} (h : Sl (.lst xs) o) : o = .lst xs := by
  rcases h with h | ⟨⟨_, e⟩ | ⟨_, _, _, _, e⟩, _⟩
  · exact h
  · cases e
  · unfold dnO at e; cases e
theorem Sl.ins {C dx : Addr} {fs : List (Str × V)} {o : HO} (h : Sl (.ins C dx fs) o) : o = .ins C dx fs := by
  rcases h with h | ⟨⟨_, e⟩ | ⟨_, _, _, _, e⟩, _⟩
  · exact h
  · cases e
  · unfold dnO at e; cases e
theorem Sl.rd {H H' : Hp} {a : Addr} {u : HO} (k : ∀ ob v, H a = some (.frz ob v) → H' a = some (.frz ob v)) (hu : IsDi u) (f : ∀ o, H a = some o → ∃ o', H' a = some o' ∧ Sl o o') (h : Rd H a u) : Rd H' a u := by
  rcases h with h | ⟨ob, h⟩
  · obtain ⟨o', e, s⟩ := f _ h
    rcases s with rfl | ⟨_, ob, rfl⟩
    · exact .inl e
    · exact .inr ⟨ob, e⟩
  · exact .inr ⟨ob, k _ _ h⟩
/-- a tuple whose object is known to have no dict -/
def StT (K : PySem.W.Frag) (H : Hp) (a : Addr) (vs : List V) : Prop := (∃ ob, H a = some (.frz ob (.tup vs)) ∧ ob.dict = none) ∨
  ∃ (o : PySem.Obj) (its : Array Value) (n : Nat), K.lookup a = some o ∧ o.cls = .type "tuple" ∧ o.dict = none ∧ o.data = .seq its n ∧ its.size ≤ sizeLine ∧ Vals vs its.toList
theorem StT.sq {K : PySem.W.Frag} {H : Hp} {a : Addr} {vs : List V} (h : StT K H a vs) : SqT K H a vs := by
  rcases h with ⟨ob, h, _⟩ | ⟨o, its, n, h1, h2, _, h3, h4, h5⟩
  · exact .inl (.inr ⟨ob, h⟩)
  · exact .inr ⟨o, its, n, h1, h2, h3, h4, h5⟩
mutual
inductive Rep (S : Sy) (ρ : Own) (H : Hp) : Val → V → Prop where
  | non : Rep S ρ H .non .non
  | bl (b : Bool) : Rep S ρ H (.bl b) (.bl b)
  | int (i : Int) : Rep S ρ H (.int i) (.int i)
  | str (s : Str) : Rep S ρ H (.str s) (.str s)
  | tup {a : Addr} {ds : List Val} {vs : List V} : StT S.K H a vs → Reps S ρ H ds vs → Rep S ρ H (.tup ds) (.ref a)
  | lst {a : Addr} {ds : List Val} {vs : List V} : Fz ρ a → H a = some (.lst vs) → Reps S ρ H ds vs → Rep S ρ H (.lst ds) (.ref a)
  | dicK {a : Addr} {ds : List Val} {ps : List (Key × V)} {ks : List Val} {vs : List V} : Fz ρ a → Rd H a (.dK ps) → ks = ps.map (fun p => kvK p.1) → vs = ps.map (·.2) → Reps S ρ H ds vs → Rep S ρ H (.dic false ks ds) (.ref a)
  | dicT {a : Addr} {ds : List Val} {ps : List (NestedKey × Addr × V)} {ks : List Val} {us vs : List V} : Fz ρ a → Rd H a (dnO S.P S.w a ps) → us = ps.map (fun p => V.ref p.2.1) → ks.map toNK = ps.map (fun p => some p.1) → Reps S ρ H ks us → vs = ps.map (·.2.2) → Reps S ρ H ds vs → Rep S ρ H (.dic true ks ds) (.ref a)
  | obj {a dx : Addr} {c : Nat} {ns : List Nat} {ds : List Val} {ps : List (Str × V)} {vs : List V} : Fz ρ a → H a = some (.ins (S.ca c) dx ps) → ps.map (·.1) = ns.map S.nm → vs = ps.map (·.2) → Reps S ρ H ds vs → Rep S ρ H (.obj c ns ds) (.ref a)
  | ref {i : Nat} {a : Addr} : ρ.nm[i]? = some a → Rep S ρ H (.ref i) (.ref a)
  | exn {c : Nat} {a dx : Addr} {d : Val} {v : V} : S.ex = some (a, c, dx) → H dx = some (.xd [(S.fld c, v)]) → Rep S ρ H d v → Rep S ρ H (.exn c d) (.ref a)
inductive Reps (S : Sy) (ρ : Own) (H : Hp) : List Val → List V → Prop where
  | nil : Reps S ρ H [] []
  | cons {d : Val} {v : V} {ds : List Val} {vs : List V} : Rep S ρ H d v → Reps S ρ H ds vs → Reps S ρ H (d :: ds) (v :: vs)
end
/-- tuples stay -/
def Kp (S : Sy) (H H' : Hp) : Prop := (∀ a xs, SqT S.K H a xs → SqT S.K H' a xs) ∧ (∀ a fs, H a = some (.xd fs) → H' a = some (.xd fs)) ∧ ∀ a ob u, H a = some (.frz ob u) → H' a = some (.frz ob u)
theorem Kp.rfl {S : Sy} {H : Hp} : Kp S H H := ⟨fun _ _ h => h, fun _ _ h => h, fun _ _ _ h => h⟩
theorem Kp.trans {S : Sy} {H H1 H2 : Hp} (a : Kp S H H1) (b : Kp S H1 H2) : Kp S H H2 := ⟨fun x xs h => b.1 x xs (a.1 x xs h), fun x xs h => b.2.1 x xs (a.2.1 x xs h), fun x ob u h => b.2.2 x ob u (a.2.2 x ob u h)⟩
theorem Kp.st {S : Sy} {H H' : Hp} (k : Kp S H H') {a : Addr} {vs : List V} (h : StT S.K H a vs) : StT S.K H' a vs := by
  rcases h with ⟨ob, h, z⟩ | h
  · exact .inl ⟨ob, k.2.2 a ob _ h, z⟩
  · exact .inr h
/-- ρ' goes on from ρ -/
def Sub (ρ ρ' : Own) : Prop := ∀ (i : Nat) (a : Addr), ρ.nm[i]? = some a → ρ'.nm[i]? = some a
theorem Sub.rfl {ρ : Own} : Sub ρ ρ := fun _ _ h => h
theorem Sub.trans {ρ ρ1 ρ2 : Own} (a : Sub ρ ρ1) (b : Sub ρ1 ρ2) : Sub ρ ρ2 := fun i x h => b i x (a i x h)
theorem Sub.app {ρ : Own} {p : Addr} : Sub ρ (ρ.add p) := fun i a h => by
  have hi := (List.getElem?_eq_some_iff.mp h).1
  show (ρ.nm ++ [p])[i]? = some a
  rw [List.getElem?_append_left hi]; exact h
/-- what stands for data goes on to do so -/
structure Mv (S : Sy) (ρ : Own) (H : Hp) (ρ' : Own) (H' : Hp) : Prop where
  sub : Sub ρ ρ'
  kp : Kp S H H'
  fz : ∀ a o, H a = some o → Fz ρ a → (∃ o', H' a = some o' ∧ Sl o o') ∧ Fz ρ' a
theorem Mv.rfl {S : Sy} {ρ : Own} {H : Hp} : Mv S ρ H ρ H := ⟨.rfl, .rfl, fun _ _ e f => ⟨⟨_, e, .rfl⟩, f⟩⟩
theorem Mv.trans {S : Sy} {ρ ρ1 ρ2 : Own} {H H1 H2 : Hp} (a : Mv S ρ H ρ1 H1) (b : Mv S ρ1 H1 ρ2 H2) : Mv S ρ H ρ2 H2 := ⟨a.sub.trans b.sub, a.kp.trans b.kp, fun x o e f => let ⟨⟨o1, e1, s1⟩, f1⟩ := a.fz x o e f; let ⟨⟨o2, e2, s2⟩, f2⟩ := b.fz x o1 e1 f1; ⟨⟨o2, e2, s1.trans s2⟩, f2⟩⟩
theorem Mv.lst {S : Sy} {ρ ρ' : Own} {H H' : Hp} (m : Mv S ρ H ρ' H') {a : Addr} {xs : List V} (f : Fz ρ a) (h : H a = some (.lst xs)) : H' a = some (.lst xs) := by
  obtain ⟨⟨o, e, s⟩, _⟩ := m.fz a _ h f
  rw [s.lst] at e; exact e
theorem Mv.ins {S : Sy} {ρ ρ' : Own} {H H' : Hp} (m : Mv S ρ H ρ' H') {a : Addr} {C dx : Addr} {fs : List (Str × V)} (f : Fz ρ a) (h : H a = some (.ins C dx fs)) : H' a = some (.ins C dx fs) := by
  obtain ⟨⟨o, e, s⟩, _⟩ := m.fz a _ h f
  rw [s.ins] at e; exact e
theorem Rd.mv {S : Sy} {ρ ρ' : Own} {H H' : Hp} (m : Mv S ρ H ρ' H') {a : Addr} {o : HO} (i : IsDi o) (f : Fz ρ a) (h : Rd H a o) : Rd H' a o := Sl.rd (m.kp.2.2 a) i (fun o e => (m.fz a o e f).1) h
theorem Rd.fz {S : Sy} {ρ ρ' : Own} {H H' : Hp} (m : Mv S ρ H ρ' H') {a : Addr} {o : HO} (f : Fz ρ a) (h : Rd H a o) : Fz ρ' a := by
  rcases h with h | ⟨u, h⟩
  · exact (m.fz a _ h f).2
  · exact (m.fz a _ h f).2
theorem isDi_K {ps : List (Key × V)} : IsDi (.dK ps) := .inl ⟨ps, rfl⟩
theorem isDi_N {P : Program} {w : World} {a : Addr} {ps : List (NestedKey × Addr × V)} : IsDi (dnO P w a ps) := .inr ⟨P, w, a, ps, rfl⟩
theorem Rd.there {H : Hp} {a : Addr} {o : HO} (h : Rd H a o) : ∃ u, H a = some u := by
  rcases h with h | ⟨u, h⟩ <;> exact ⟨_, h⟩
mutual
theorem Rep.mono {S : Sy} {ρ ρ' : Own} {H H' : Hp} (m : Mv S ρ H ρ' H') : ∀ {d : Val} {v : V}, Rep S ρ H d v → Rep S ρ' H' d v
  | _, _, .non => .non
  | _, _, .bl b => .bl b
  | _, _, .int i => .int i
  | _, _, .str z => .str z
  | _, _, .tup h r => .tup (m.kp.st h) (Reps.mono m r)
  | _, _, .lst f h r => .lst (m.fz _ _ h f).2 (m.lst f h) (Reps.mono m r)
  | _, _, .dicK f h e1 e2 r => .dicK (Rd.fz m f h) (Rd.mv m isDi_K f h) e1 e2 (Reps.mono m r)
  | _, _, .dicT f h e1 e2 r e3 q => .dicT (Rd.fz m f h) (Rd.mv m isDi_N f h) e1 e2 (Reps.mono m r) e3 (Reps.mono m q)
  | _, _, .obj f h e1 e2 r => .obj (m.fz _ _ h f).2 (m.ins f h) e1 e2 (Reps.mono m r)
  | _, _, .ref h => .ref (m.sub _ _ h)
  | _, _, .exn h1 h2 r => .exn h1 (m.kp.2.1 _ _ h2) (Rep.mono m r)
theorem Reps.mono {S : Sy} {ρ ρ' : Own} {H H' : Hp} (m : Mv S ρ H ρ' H') : ∀ {ds : List Val} {vs : List V}, Reps S ρ H ds vs → Reps S ρ' H' ds vs
  | _, _, .nil => .nil
  | _, _, .cons r t => .cons (Rep.mono m r) (Reps.mono m t)
end
theorem Reps.length {S : Sy} {ρ : Own} {H : Hp} : ∀ {ds : List Val} {vs : List V}, Reps S ρ H ds vs → ds.length = vs.length
  | _, _, .nil => rfl
  | _, _, .cons _ t => congrArg (· + 1) (Reps.length t)
theorem Reps.get {S : Sy} {ρ : Own} {H : Hp} : ∀ {ds : List Val} {vs : List V} {i : Nat} {d : Val}, Reps S ρ H ds vs → ds[i]? = some d → ∃ v, vs[i]? = some v ∧ Rep S ρ H d v
  | _, _, 0, _, .cons r _, e => by
    have e := Option.some.inj e
    subst e
    exact ⟨_, rfl, r⟩
  | _, _, i + 1, _, .cons _ t, e => Reps.get (i := i) t e
  | _, _, i, _, .nil, e => by simp at e
theorem Reps.app {S : Sy} {ρ : Own} {H : Hp} : ∀ {ds es : List Val} {vs us : List V}, Reps S ρ H ds vs → Reps S ρ H es us → Reps S ρ H (ds ++ es) (vs ++ us)
  | _, _, _, _, .nil, t => t
  | _, _, _, _, .cons r q, t => .cons r (Reps.app q t)
theorem Reps.one {S : Sy} {ρ : Own} {H : Hp} {d : Val} {v : V} (r : Rep S ρ H d v) : Reps S ρ H [d] [v] := .cons r .nil
theorem Reps.take {S : Sy} {ρ : Own} {H : Hp} : ∀ {ds : List Val} {vs : List V} (n : Nat), Reps S ρ H ds vs → Reps S ρ H (ds.take n) (vs.take n)
  | _, _, 0, _ => .nil
  | _, _, _ + 1, .nil => .nil
  | _, _, n + 1, .cons r t => .cons r (Reps.take n t)
theorem Reps.drop {S : Sy} {ρ : Own} {H : Hp} : ∀ {ds : List Val} {vs : List V} (n : Nat), Reps S ρ H ds vs → Reps S ρ H (ds.drop n) (vs.drop n)
  | _, _, 0, r => r
  | _, _, _ + 1, .nil => .nil
  | _, _, n + 1, .cons _ t => Reps.drop n t
theorem Reps.set {S : Sy} {ρ : Own} {H : Hp} {d : Val} {v : V} (r : Rep S ρ H d v) : ∀ {ds : List Val} {vs : List V} (n : Nat), Reps S ρ H ds vs → Reps S ρ H (ds.set n d) (vs.set n v)
  | _, _, _, .nil => .nil
  | _, _, 0, .cons _ t => .cons r t
  | _, _, n + 1, .cons q t => .cons q (Reps.set r n t)
theorem Reps.ints {S : Sy} {ρ : Own} {H : Hp} : ∀ {ns : List Int} {vs : List V}, Reps S ρ H (ns.map Val.int) vs → vs = ns.map V.int
  | [], _, .nil => rfl
  | n :: ns, _, .cons r t => by
    cases r
    rw [Reps.ints t]
    rfl
inductive KvR (S : Sy) (ρ : Own) (H : Hp) {κ : Type} (kd : κ → Val) : List (Val × Val) → List (κ × V) → Prop where
  | nil : KvR S ρ H kd [] []
  | cons {k : κ} {d : Val} {v : V} {ds : List (Val × Val)} {vs : List (κ × V)} : Rep S ρ H d v → KvR S ρ H kd ds vs → KvR S ρ H kd ((kd k, d) :: ds) ((k, v) :: vs)
theorem KvR.mono {S : Sy} {ρ ρ' : Own} {H H' : Hp} {κ : Type} {kd : κ → Val} (m : Mv S ρ H ρ' H') : ∀ {ds : List (Val × Val)} {vs : List (κ × V)}, KvR S ρ H kd ds vs → KvR S ρ' H' kd ds vs
  | _, _, .nil => .nil
  | _, _, .cons r t => .cons (r.mono m) (t.mono m)
inductive KvN (S : Sy) (ρ : Own) (H : Hp) : List (Val × Val) → List (NestedKey × Addr × V) → Prop where
  | nil : KvN S ρ H [] []
  | cons {k : NestedKey} {b : Addr} {kd d : Val} {v : V} {ds : List (Val × Val)} {vs : List (NestedKey × Addr × V)} : Rep S ρ H kd (.ref b) → toNK kd = some k → Rep S ρ H d v → KvN S ρ H ds vs → KvN S ρ H ((kd, d) :: ds) ((k, b, v) :: vs)
theorem KvN.mono {S : Sy} {ρ ρ' : Own} {H H' : Hp} (m : Mv S ρ H ρ' H') : ∀ {ds : List (Val × Val)} {vs : List (NestedKey × Addr × V)}, KvN S ρ H ds vs → KvN S ρ' H' ds vs
  | _, _, .nil => .nil
  | _, _, .cons r e q t => .cons (r.mono m) e (q.mono m) (t.mono m)
inductive FsR (S : Sy) (ρ : Own) (H : Hp) : List (Nat × Val) → List (Str × V) → Prop where
  | nil : FsR S ρ H [] []
  | cons {n : Nat} {d : Val} {v : V} {ds : List (Nat × Val)} {vs : List (Str × V)} : Rep S ρ H d v → FsR S ρ H ds vs → FsR S ρ H ((n, d) :: ds) ((S.nm n, v) :: vs)
theorem FsR.mono {S : Sy} {ρ ρ' : Own} {H H' : Hp} (m : Mv S ρ H ρ' H') : ∀ {ds : List (Nat × Val)} {vs : List (Str × V)}, FsR S ρ H ds vs → FsR S ρ' H' ds vs
  | _, _, .nil => .nil
  | _, _, .cons r t => .cons (r.mono m) (t.mono m)
theorem reps_ints {S : Sy} {ρ : Own} {H : Hp} : ∀ ns : List Int, Reps S ρ H (ns.map Val.int) (ns.map V.int)
  | [] => .nil
  | n :: ns => .cons (.int n) (reps_ints ns)
inductive ObR (S : Sy) (ρ : Own) (H : Hp) : Ob → Addr → Prop where
  | lst {xs : List Val} {vs : List V} {a : Addr} : H a = some (.lst vs) → Reps S ρ H xs vs → ObR S ρ H (.lst xs) a
  | fro {ns : List Int} {a : Addr} {o : PySem.Obj} : H a = some (.frz o (.lst (ns.map V.int))) → ObR S ρ H (.fro ns) a
  | dcK {kvs : List (Val × Val)} {vs : List (Key × V)} {a : Addr} : H a = some (.dK vs) → KvR S ρ H kvK kvs vs → ObR S ρ H (.dcK kvs) a
  | dcT {kvs : List (Val × Val)} {vs : List (NestedKey × Addr × V)} {a : Addr} : H a = some (dnO S.P S.w a vs) → KvN S ρ H kvs vs → ObR S ρ H (.dcT kvs) a
  | dcL {kvs : List (Val × Val)} {vs : List (Key × V)} {o : PySem.Obj} {a : Addr} : H a = some (.frz o (.dK vs)) → KvR S ρ H kvK kvs vs → ObR S ρ H (.dcL kvs) a
  | dcM {kvs : List (Val × Val)} {vs : List (NestedKey × Addr × V)} {o : PySem.Obj} {a : Addr} : H a = some (.frz o (dnO S.P S.w a vs)) → KvN S ρ H kvs vs → ObR S ρ H (.dcM kvs) a
  | ins {c : Nat} {fs : List (Nat × Val)} {vs : List (Str × V)} {a dx : Addr} : H a = some (.ins (S.ca c) dx vs) → FsR S ρ H fs vs → ObR S ρ H (.ins c fs) a
theorem ObR.there {S : Sy} {ρ : Own} {H : Hp} {o : Ob} {a : Addr} (r : ObR S ρ H o a) : ∃ u, H a = some u := by
  cases r <;> exact ⟨_, by assumption⟩
theorem ObR.mono {S : Sy} {ρ ρ' : Own} {H H' : Hp} (m : Mv S ρ H ρ' H') {o : Ob} {a : Addr} (e : H' a = H a) (r : ObR S ρ H o a) : ObR S ρ' H' o a := by
  cases r with
  | lst h q => exact .lst (e.trans h) (q.mono m)
  | fro h => exact .fro (e.trans h)
  | dcK h q => exact .dcK (e.trans h) (q.mono m)
  | dcT h q => exact .dcT (e.trans h) (q.mono m)
  | dcL h q => exact .dcL (e.trans h) (q.mono m)
  | dcM h q => exact .dcM (e.trans h) (q.mono m)
  | ins h q => exact .ins (e.trans h) (q.mono m)
/-- the heap is held -/
structure Rel (S : Sy) (ρ : Own) (h : Hea) (H : Hp) : Prop where
  len : h.length = ρ.nm.length
  inj : ∀ (i j : Nat) (a : Addr), ρ.nm[i]? = some a → ρ.nm[j]? = some a → i = j
  ob : ∀ (i : Nat) (o : Ob) (a : Addr), h[i]? = some o → ρ.nm[i]? = some a → ObR S ρ H o a
  hid : ∀ a, a ∈ ρ.hd → (∃ u, H a = some u) ∧ Off ρ a
theorem upd_some {H : Hp} {p a : Addr} {o u : HO} (e : H a = some u) : ∃ u, upd H p o a = some u := by
  unfold upd
  split
  · exact ⟨_, rfl⟩
  · exact ⟨_, e⟩
theorem Rel.at {S : Sy} {ρ : Own} {h : Hea} {H : Hp} (r : Rel S ρ h H) {i : Nat} {o : Ob} (e : h[i]? = some o) : ∃ a, ρ.nm[i]? = some a ∧ ObR S ρ H o a := by
  have hi := (List.getElem?_eq_some_iff.mp e).1
  rw [r.len] at hi
  exact ⟨_, List.getElem?_eq_getElem hi, r.ob i o _ e (List.getElem?_eq_getElem hi)⟩
theorem Kp.new {S : Sy} {H : Hp} {p : Addr} {o : HO} (n : H p = none) : Kp S H (upd H p o) := by
  refine ⟨fun a xs h => ?_, fun a fs h => by rw [upd_ne (ne_of_none h n)]; exact h, fun a ob u h => by rw [upd_ne (ne_of_none h n)]; exact h⟩
  rcases h with (h | ⟨u, h⟩) | h
  · exact .inl (.inl (by rw [upd_ne (ne_of_none h n)]; exact h))
  · exact .inl (.inr ⟨u, by rw [upd_ne (ne_of_none h n)]; exact h⟩)
  · exact .inr h
/-- what may be changed: no tuple, nothing locked, no error's dict -/
def Ch : HO → Prop
  | .tup _ => False
  | .frz _ _ => False
  | .xd _ => False
  | _ => True
theorem Kp.put {S : Sy} {H : Hp} {p : Addr} {o u : HO} (e : H p = some u) (h1 : Ch u) : Kp S H (upd H p o) := by
  refine ⟨fun a xs h => ?_, fun a fs h => by rw [upd_ne (ne_of h e (by rintro rfl; exact h1))]; exact h, fun a ob v h => by rw [upd_ne (ne_of h e (by rintro rfl; exact h1))]; exact h⟩
  rcases h with (h | ⟨w, h⟩) | h
  · exact .inl (.inl (by rw [upd_ne (ne_of h e (by rintro rfl; exact h1))]; exact h))
  · exact .inl (.inr ⟨w, by rw [upd_ne (ne_of h e (by rintro rfl; exact h1))]; exact h⟩)
  · exact .inr h
theorem add_some {ρ : Own} {p a : Addr} {i : Nat} (h : (ρ.add p).nm[i]? = some a) : ρ.nm[i]? = some a ∨ a = p := by
  have h : (ρ.nm ++ [p])[i]? = some a := h
  by_cases hi : i < ρ.nm.length
  · rw [List.getElem?_append_left hi] at h
    exact .inl h
  · rw [List.getElem?_append_right (Nat.le_of_not_lt hi)] at h
    have := List.mem_of_getElem? h
    simp at this
    exact .inr this
theorem Fz.add {ρ : Own} {p a : Addr} (f : Fz ρ a) (n : a ≠ p) : Fz (ρ.add p) a := ⟨fun i z => by
  rcases add_some z with z | z
  · exact f.1 i z
  · exact n z, f.2⟩
theorem Mv.side {S : Sy} {ρ : Own} {H : Hp} {p : Addr} {o : HO} (n : H p = none) : Mv S ρ H ρ (upd H p o) := ⟨.rfl, .new n, fun a u e f => ⟨⟨u, by rw [upd_ne (ne_of_none e n)]; exact e, .rfl⟩, f⟩⟩
theorem Mv.new {S : Sy} {ρ : Own} {H : Hp} {p : Addr} {o : HO} (n : H p = none) : Mv S ρ H (ρ.add p) (upd H p o) := ⟨.app, .new n, fun a u e f => ⟨⟨u, by rw [upd_ne (ne_of_none e n)]; exact e, .rfl⟩, f.add (ne_of_none e n)⟩⟩
theorem Mv.put {S : Sy} {ρ : Own} {H : Hp} {i : Nat} {a : Addr} {u o : HO} (ea : ρ.nm[i]? = some a) (e : H a = some u) (h1 : Ch u) : Mv S ρ H ρ (upd H a o) := ⟨.rfl, .put e h1, fun b w q f => ⟨⟨w, by
  have hb : b ≠ a := fun z => f.1 i (by rw [z]; exact ea)
  rw [upd_ne hb]; exact q, .rfl⟩, f⟩⟩
/-- a thing that is being made is changed -/
theorem Mv.hid {S : Sy} {ρ : Own} {H : Hp} {a : Addr} {u o : HO} (ea : a ∈ ρ.hd) (e : H a = some u) (h1 : Ch u) : Mv S ρ H ρ (upd H a o) := ⟨.rfl, .put e h1, fun b w q f => ⟨⟨w, by
  have hb : b ≠ a := fun z => f.2 (by rw [z]; exact ea)
  rw [upd_ne hb]; exact q, .rfl⟩, f⟩⟩
theorem Rel.free {S : Sy} {ρ : Own} {h : Hea} {H : Hp} (r : Rel S ρ h H) {p : Addr} (n : H p = none) {i : Nat} (e : ρ.nm[i]? = some p) : False := by
  have hi := (List.getElem?_eq_some_iff.mp e).1
  rw [← r.len] at hi
  obtain ⟨u, q⟩ := (r.ob i _ p (List.getElem?_eq_getElem hi) e).there
  rw [n] at q; cases q
/-- a new thing that is not in the heap of the evaluator -/
theorem Rel.side {S : Sy} {ρ : Own} {h : Hea} {H : Hp} (r : Rel S ρ h H) {p : Addr} {o : HO} (n : H p = none) : Rel S ρ h (upd H p o) :=
  ⟨r.len, r.inj, fun i ob a e1 e2 => (r.ob i ob a e1 e2).mono (.side n) (upd_ne fun z => r.free n (z ▸ e2)), fun a m => let ⟨⟨_, e⟩, z⟩ := r.hid a m; ⟨upd_some e, z⟩⟩
theorem Rel.fz {S : Sy} {ρ : Own} {h : Hea} {H : Hp} (r : Rel S ρ h H) {p : Addr} (n : H p = none) : Fz ρ p := ⟨fun _ z => r.free n z, fun m => by
  obtain ⟨⟨u, e⟩, _⟩ := r.hid p m
  rw [n] at e; cases e⟩
theorem add_at {ρ : Own} {p : Addr} : (ρ.add p).nm[ρ.nm.length]? = some p := by show (ρ.nm ++ [p])[ρ.nm.length]? = some p; simp
theorem Rel.grow {S : Sy} {ρ : Own} {h : Hea} {H' : Hp} (hl : h.length = ρ.nm.length) (inj : ∀ (i j : Nat) (a : Addr), ρ.nm[i]? = some a → ρ.nm[j]? = some a → i = j) {p : Addr} {ob : Ob} (n : Off ρ p)
    (os : ∀ (i : Nat) (o : Ob) (a : Addr), h[i]? = some o → ρ.nm[i]? = some a → ObR S (ρ.add p) H' o a) (q : ObR S (ρ.add p) H' ob p) (hi : ∀ a, a ∈ ρ.hd → (∃ u, H' a = some u) ∧ Off ρ a) (hp : p ∉ ρ.hd) : Rel S (ρ.add p) (h ++ [ob]) H' := by
  have one : ∀ (i : Nat) (a : Addr), (ρ.add p).nm[i]? = some a → (i < ρ.nm.length ∧ ρ.nm[i]? = some a) ∨ (i = ρ.nm.length ∧ a = p) := by
    intro i a e
    have e : (ρ.nm ++ [p])[i]? = some a := e
    by_cases h1 : i < ρ.nm.length
    · rw [List.getElem?_append_left h1] at e
      exact .inl ⟨h1, e⟩
    · rw [List.getElem?_append_right (Nat.le_of_not_lt h1)] at e
      have e3 := (List.getElem?_eq_some_iff.mp e).1
      have e4 := (List.mem_of_getElem? e)
      simp at e3 e4
      exact .inr ⟨by omega, e4⟩
  refine ⟨by simp [hl, Own.add], fun i j a e1 e2 => ?_, fun i o' a e1 e2 => ?_, fun a m => ⟨(hi a m).1, (Fz.add (ρ := ⟨ρ.nm, []⟩) (p := p) ⟨(hi a m).2, by simp⟩ fun z => hp (z ▸ m)).1⟩⟩
  · rcases one i a e1 with ⟨_, w1⟩ | ⟨z1, w1⟩
    · rcases one j a e2 with ⟨_, w2⟩ | ⟨z2, w2⟩
      · exact inj i j a w1 w2
      · exact (n i (w2 ▸ w1)).elim
    · rcases one j a e2 with ⟨_, w2⟩ | ⟨z2, w2⟩
      · exact (n j (w1 ▸ w2)).elim
      · omega
  · rcases one i a e2 with ⟨z, w2⟩ | ⟨z, w2⟩
    · rw [List.getElem?_append_left (by omega)] at e1
      exact os i o' a e1 w2
    · subst z w2
      rw [List.getElem?_append_right (by omega)] at e1
      have e4 := (List.mem_of_getElem? e1)
      simp at e4
      subst e4
      exact q
/-- a new object -/
theorem Rel.new {S : Sy} {ρ : Own} {h : Hea} {H : Hp} (r : Rel S ρ h H) {p : Addr} {o : HO} {ob : Ob} (n : H p = none) (q : ObR S (ρ.add p) (upd H p o) ob p) : Rel S (ρ.add p) (h ++ [ob]) (upd H p o) :=
  Rel.grow r.len r.inj (fun i z => r.free n z) (fun i o' a e1 e2 => (r.ob i o' a e1 e2).mono (.new n) (upd_ne fun z => r.free n (z ▸ e2))) q (fun a m => let ⟨⟨_, e⟩, z⟩ := r.hid a m; ⟨upd_some e, z⟩) (r.fz n).2
/-- an object changed -/
theorem Rel.put {S : Sy} {ρ : Own} {h : Hea} {H : Hp} (r : Rel S ρ h H) {i : Nat} {a : Addr} {u o : HO} {ob : Ob} (e : ρ.nm[i]? = some a) (hu : H a = some u) (h1 : Ch u)
    (q : ObR S ρ (upd H a o) ob a) : Rel S ρ (h.set i ob) (upd H a o) := by
  refine ⟨by simp [r.len], r.inj, fun j o' b e1 e2 => ?_, fun a m => let ⟨⟨_, e⟩, z⟩ := r.hid a m; ⟨upd_some e, z⟩⟩
  by_cases hj : i = j
  · subst hj
    have hi := (List.getElem?_eq_some_iff.mp e).1
    rw [← r.len] at hi
    rw [List.getElem?_set_self hi] at e1
    cases e1
    rw [e] at e2; cases e2
    exact q
  · rw [List.getElem?_set_ne hj] at e1
    have nb : b ≠ a := fun z => hj (r.inj i j a e (z ▸ e2))
    exact (r.ob j o' b e1 e2).mono (.put e hu h1) (upd_ne nb)
inductive ER (S : Sy) (ρ : Own) (H : Hp) : En → St → Prop where
  | nil : ER S ρ H [] []
  | cons {d : Option Val} {v : Option V} {ds : En} {vs : St} : (∀ x, d = some x → ∃ y, v = some y ∧ Rep S ρ H x y) → ER S ρ H ds vs → ER S ρ H (d :: ds) (v :: vs)
theorem ER.mono {S : Sy} {ρ ρ' : Own} {H H' : Hp} (m : Mv S ρ H ρ' H') : ∀ {ds : En} {vs : St}, ER S ρ H ds vs → ER S ρ' H' ds vs
  | _, _, .nil => .nil
  | _, _, .cons r t => .cons (fun x e => let ⟨y, e1, q⟩ := r x e; ⟨y, e1, q.mono m⟩) (t.mono m)
theorem ER.get {S : Sy} {ρ : Own} {H : Hp} : ∀ {ds : En} {vs : St} {i : Nat} {d : Val}, ER S ρ H ds vs → ds[i]? = some (some d) → ∃ v, vs[i]? = some (some v) ∧ Rep S ρ H d v
  | _, _, 0, _, .cons r _, e => by
    have e := Option.some.inj e
    obtain ⟨y, e1, q⟩ := r _ e
    subst e1
    exact ⟨_, rfl, q⟩
  | _, _, i + 1, _, .cons _ t, e => ER.get (i := i) t e
  | _, _, i, _, .nil, e => by simp at e
theorem ER.set {S : Sy} {ρ : Own} {H : Hp} {d : Val} {v : V} (r : Rep S ρ H d v) : ∀ {ds : En} {vs : St} (i : Nat), ER S ρ H ds vs → ER S ρ H (ds.set i (some d)) (vs.set i (some v))
  | _, _, _, .nil => .nil
  | _, _, 0, .cons _ t => .cons (fun x e => ⟨_, rfl, by cases e; exact r⟩) t
  | _, _, i + 1, .cons q t => .cons q (ER.set r i t)
theorem ER.gone {S : Sy} {ρ : Own} {H : Hp} {v : Option V} : ∀ {ds : En} {vs : St} (i : Nat), ER S ρ H ds vs → ER S ρ H (ds.set i none) (vs.set i v)
  | _, _, _, .nil => .nil
  | _, _, 0, .cons _ t => .cons (fun x e => nomatch e) t
  | _, _, i + 1, .cons q t => .cons q (ER.gone i t)
/-- forgetting on the evaluator's side alone -/
theorem ER.weak {S : Sy} {ρ : Own} {H : Hp} : ∀ {ds : En} {vs : St} (i : Nat), ER S ρ H ds vs → ER S ρ H (ds.set i none) vs
  | _, _, _, .nil => .nil
  | _, _, 0, .cons _ t => .cons (fun x e => nomatch e) t
  | _, _, i + 1, .cons q t => .cons q (ER.weak i t)
/-- from one place to a later one: what was named stays named, tuples stay, what the evaluator does not hold stays, what is newly held was not there -/
structure Go (S : Sy) (ρ : Own) (H : Hp) (ρ' : Own) (H' : Hp) : Prop where
  sub : Sub ρ ρ'
  kp : Kp S H H'
  fr : ∀ a o, H a = some o → Off ρ a → (∃ o', H' a = some o' ∧ Sl o o') ∧ (a ∈ ρ.hd → H' a = some o)
  nw : ∀ (i : Nat) (a : Addr), ρ'.nm[i]? = some a → (∃ j : Nat, ρ.nm[j]? = some a) ∨ H a = none
  hd : ρ'.hd = ρ.hd
theorem Go.rfl {S : Sy} {ρ : Own} {H : Hp} : Go S ρ H ρ H := ⟨.rfl, .rfl, fun _ _ h _ => ⟨⟨_, h, .rfl⟩, fun _ => h⟩, fun i _ h => .inl ⟨i, h⟩, Eq.refl _⟩
theorem Go.trans {S : Sy} {ρ ρ1 ρ2 : Own} {H H1 H2 : Hp} (a : Go S ρ H ρ1 H1) (b : Go S ρ1 H1 ρ2 H2) : Go S ρ H ρ2 H2 := by
  have off : ∀ x o, H x = some o → Off ρ x → Off ρ1 x := fun x o e n i q => by
    rcases a.nw i x q with ⟨j, z⟩ | z
    · exact n j z
    · rw [z] at e; cases e
  refine ⟨a.sub.trans b.sub, a.kp.trans b.kp, fun x o e n => ?_, fun i x q => ?_, b.hd.trans a.hd⟩
  · obtain ⟨⟨o1, e1, s1⟩, k1⟩ := a.fr x o e n
    obtain ⟨⟨o2, e2, s2⟩, k2⟩ := b.fr x o1 e1 (off x o e n)
    exact ⟨⟨o2, e2, s1.trans s2⟩, fun m => (b.fr x o (k1 m) (off x o e n)).2 (by rw [a.hd]; exact m)⟩
  · rcases b.nw i x q with ⟨j, z⟩ | z
    · exact a.nw j x z
    · cases e : H x with
      | none => exact .inr (Eq.refl _)
      | some o =>
        refine .inl (Classical.byContradiction fun n => ?_)
        obtain ⟨⟨o', this, _⟩, _⟩ := a.fr x o e fun j w => n ⟨j, w⟩
        rw [z] at this; cases this
/-- a new thing at p, not held -/
theorem Go.side {S : Sy} {ρ : Own} {H : Hp} {p : Addr} {o : HO} (n : H p = none) : Go S ρ H ρ (upd H p o) :=
  ⟨.rfl, .new n, fun a u e _ => have q : upd H p o a = some u := by rw [upd_ne (ne_of_none e n)]; exact e
    ⟨⟨u, q, .rfl⟩, fun _ => q⟩, fun i _ h => .inl ⟨i, h⟩, Eq.refl _⟩
/-- a new thing at p, held -/
theorem Go.new {S : Sy} {ρ : Own} {H : Hp} {p : Addr} {o : HO} (n : H p = none) : Go S ρ H (ρ.add p) (upd H p o) := by
  refine ⟨.app, .new n, fun a u e _ => have q : upd H p o a = some u := by rw [upd_ne (ne_of_none e n)]; exact e
    ⟨⟨u, q, .rfl⟩, fun _ => q⟩, fun i a h => ?_, Eq.refl _⟩
  rcases add_some h with h | h
  · exact .inl ⟨i, h⟩
  · subst h
    exact .inr n
/-- a thing that is held is changed -/
theorem Go.put {S : Sy} {ρ : Own} {H : Hp} {i : Nat} {a : Addr} {u o : HO} (ea : ρ.nm[i]? = some a) (e : H a = some u) (h1 : Ch u) : Go S ρ H ρ (upd H a o) :=
  ⟨.rfl, .put e h1, fun b w q n => by
    have hb : b ≠ a := fun z => n i (by rw [z]; exact ea)
    have q' : upd H a o b = some w := by rw [upd_ne hb]; exact q
    exact ⟨⟨w, q', .rfl⟩, fun _ => q'⟩, fun i _ h => .inl ⟨i, h⟩, Eq.refl _⟩
theorem Go.mv {S : Sy} {ρ ρ' : Own} {H H' : Hp} (g : Go S ρ H ρ' H') : Mv S ρ H ρ' H' := ⟨g.sub, g.kp, fun a o e f => ⟨(g.fr a o e f.1).1, (fun i z => by
  rcases g.nw i a z with ⟨j, q⟩ | q
  · exact f.1 j q
  · rw [q] at e; cases e), by rw [g.hd]; exact f.2⟩⟩
theorem Go.lst {S : Sy} {ρ ρ' : Own} {H H' : Hp} (g : Go S ρ H ρ' H') {a : Addr} {xs : List V} (h : H a = some (.lst xs)) (n : Off ρ a) : H' a = some (.lst xs) := by
  obtain ⟨⟨o, e, s⟩, _⟩ := g.fr a _ h n
  rw [s.lst] at e; exact e
section
variable (S : Sy)
def Aft (ρ : Own) (H : Hp) (r : Res Val) (Q : VK) (W : XK) : Prop := match r with
  | .ok d h' => ∀ ρ' v H', Go S ρ H ρ' H' → Rel S ρ' h' H' → Rep S ρ' H' d v → Q v H'
  | .exc c d h' => ∀ ρ' v H' dx, Go S ρ H ρ' H' → Rel S ρ' h' H' → Rep S ρ' H' d v → H' dx = some (.xd [(S.fld c, v)]) → W (.ref (S.ca c)) (some dx) H'
  | .stuck => False
def AftS (ρ : Own) (H : Hp) (r : SRes) (D : Ends) (W : WX) : Prop := match r with
  | .nx e h' => ∀ ρ' σ' H', Go S ρ H ρ' H' → Rel S ρ' h' H' → ER S ρ' H' e σ' → D.nx σ' H'
  | .rt d h' => ∀ ρ' v H', Go S ρ H ρ' H' → Rel S ρ' h' H' → Rep S ρ' H' d v → D.rt v H'
  | .bk e h' => ∀ ρ' σ' H', Go S ρ H ρ' H' → Rel S ρ' h' H' → ER S ρ' H' e σ' → D.bk σ' H'
  | .ct e h' => ∀ ρ' σ' H', Go S ρ H ρ' H' → Rel S ρ' h' H' → ER S ρ' H' e σ' → D.ct σ' H'
  | .exc c d e h' => ∀ ρ' v σ' H' dx, Go S ρ H ρ' H' → Rel S ρ' h' H' → Rep S ρ' H' d v → ER S ρ' H' e σ' → H' dx = some (.xd [(S.fld c, v)]) → W (.ref (S.ca c)) (some dx) σ' H'
  | .stuck => False
def tE (W : WX) (f : En → Hea → Res Val) : TE := fun σ H Q => ∃ ρ e h, Rel S ρ h H ∧ ER S ρ H e σ ∧ Aft S ρ H (f e h) Q (fun c d H' => W c d σ H')
def tS (W : WX) (f : En → Hea → SRes) : TS := fun D σ H => ∃ ρ e h, Rel S ρ h H ∧ ER S ρ H e σ ∧ AftS S ρ H (f e h) D W
end
section
variable {S : Sy}
theorem Aft.later {ρ ρ1 : Own} {H H1 : Hp} {r : Res Val} {Q : VK} {W : XK} (a : Aft S ρ H r Q W) (s : Go S ρ H ρ1 H1) : Aft S ρ1 H1 r Q W := by
  cases r with
  | ok d h' => exact fun ρ2 v H2 s2 => a ρ2 v H2 (s.trans s2)
  | exc c d h' => exact fun ρ2 v H2 dx s2 => a ρ2 v H2 dx (s.trans s2)
  | stuck => exact a
theorem Aft.bind {ρ : Own} {H : Hp} {r : Res Val} {k : Val → Hea → Res Val} {Q : VK} {W : XK} (a : Aft S ρ H (r.bind k) Q W) :
    Aft S ρ H r (fun v H1 => ∃ ρ1 d h1, Go S ρ H ρ1 H1 ∧ Rel S ρ1 h1 H1 ∧ Rep S ρ1 H1 d v ∧ Aft S ρ1 H1 (k d h1) Q W) W := by
  cases r with
  | ok d h => exact fun ρ1 v H1 s R r => ⟨ρ1, d, h, s, R, r, Aft.later (r := k d h) a s⟩
  | exc c d h => exact a
  | stuck => exact a
theorem Aft.mono {ρ : Own} {H : Hp} {r : Res Val} {Q Q' : VK} {W : XK} (a : Aft S ρ H r Q W) (h : ∀ v H', Q v H' → Q' v H') : Aft S ρ H r Q' W := by
  cases r with
  | ok d h' => exact fun ρ1 v H1 s R r => h _ _ (a ρ1 v H1 s R r)
  | exc c d h' => exact a
  | stuck => exact a
theorem AftS.later {ρ ρ1 : Own} {H H1 : Hp} {r : SRes} {D : Ends} {W : WX} (a : AftS S ρ H r D W) (s : Go S ρ H ρ1 H1) : AftS S ρ1 H1 r D W := by
  cases r with
  | nx e h' => exact fun ρ2 σ H2 s2 => a ρ2 σ H2 (s.trans s2)
  | rt d h' => exact fun ρ2 σ H2 s2 => a ρ2 σ H2 (s.trans s2)
  | bk e h' => exact fun ρ2 σ H2 s2 => a ρ2 σ H2 (s.trans s2)
  | ct e h' => exact fun ρ2 σ H2 s2 => a ρ2 σ H2 (s.trans s2)
  | exc c d e h' => exact fun ρ2 v σ H2 dx s2 => a ρ2 v σ H2 dx (s.trans s2)
  | stuck => exact a
theorem Rep.go {ρ ρ' : Own} {H H' : Hp} {d : Val} {v : V} (r : Rep S ρ H d v) (g : Go S ρ H ρ' H') : Rep S ρ' H' d v := r.mono g.mv
theorem Reps.go {ρ ρ' : Own} {H H' : Hp} {d : List Val} {v : List V} (r : Reps S ρ H d v) (g : Go S ρ H ρ' H') : Reps S ρ' H' d v := r.mono g.mv
theorem ER.go {ρ ρ' : Own} {H H' : Hp} {d : En} {v : St} (r : ER S ρ H d v) (g : Go S ρ H ρ' H') : ER S ρ' H' d v := r.mono g.mv
end
theorem _root_.L2.PE.imp {X : Cx} {e : Expr} {t t' : TE} (p : PE X e t) (h : ∀ σ H Q, t' σ H Q → t σ H Q) : PE X e t' := ⟨fun pins s σ H Q I q => p.run pins s σ H Q I (h σ H Q q)⟩
theorem _root_.L2.PT.imp {X : Cx} {e : Expr} {t t' : TT} (p : PT X e t) (h : ∀ σ H Q, t' σ H Q → t σ H Q) : PT X e t' := ⟨fun pins s σ H Q I q => p.run pins s σ H Q I (h σ H Q q)⟩
theorem _root_.L2.PA.imp {X : Cx} {e : List Expr} {t t' : TA} (p : PA X e t) (h : ∀ σ H Q, t' σ H Q → t σ H Q) : PA X e t' := ⟨fun pos pins s σ H Q I q => p.run pos pins s σ H Q I (h σ H Q q)⟩
theorem _root_.L2.PS.imp {X : Cx} {e : Stmt} {t t' : TS} (p : PS X e t) (h : ∀ D σ H, t' D σ H → t D σ H) : PS X e t' := ⟨fun pins s σ H D I q => p.run pins s σ H D I (h D σ H q)⟩
theorem _root_.L2.PSs.imp {X : Cx} {e : List Stmt} {t t' : TS} (p : PSs X e t) (h : ∀ D σ H, t' D σ H → t D σ H) : PSs X e t' := ⟨fun pins s σ H D I q => p.run pins s σ H D I (h D σ H q)⟩
end Lad
end
section
set_option maxRecDepth 100000
set_option maxHeartbeats 1000000
namespace Lad
open PySem L2
structure Tb where
  ca : Nat → Addr
  nm : Nat → Str
  fld : Nat → Str
  ex : Option (Addr × Nat × Addr)
abbrev sy (T : Tb) (X : Cx) : Sy := ⟨X.K, T.ca, T.nm, T.fld, X.prog, X.w, T.ex⟩
section
variable {S : Sy} {ρ : Own} {H : Hp}
theorem Rep.non_ {v : V} (r : Rep S ρ H .non v) : v = .non := by cases r; rfl
theorem Rep.bl_ {b : Bool} {v : V} (r : Rep S ρ H (.bl b) v) : v = .bl b := by cases r; rfl
theorem Rep.int_ {b : Int} {v : V} (r : Rep S ρ H (.int b) v) : v = .int b := by cases r; rfl
theorem Rep.str_ {b : Str} {v : V} (r : Rep S ρ H (.str b) v) : v = .str b := by cases r; rfl
theorem Rep.tup_ {ds : List Val} {v : V} (r : Rep S ρ H (.tup ds) v) : ∃ a vs, v = .ref a ∧ StT S.K H a vs ∧ Reps S ρ H ds vs := by cases r; exact ⟨_, _, rfl, by assumption, by assumption⟩
theorem Rep.ref_ {i : Nat} {v : V} (r : Rep S ρ H (.ref i) v) : ∃ a, v = .ref a ∧ ρ.nm[i]? = some a := by cases r; exact ⟨_, rfl, by assumption⟩
/-- a list of the heap, to be read -/
def lstAt (h : Hea) (i : Nat) : Option (List Val) := match h[i]? with
  | some (.lst xs) => some xs
  | some (.fro ns) => some (ns.map Val.int)
  | _ => none
theorem Rel.lst {h : Hea} (R : Rel S ρ h H) {i : Nat} {xs : List Val} (e : lstAt h i = some xs) {a : Addr} (ea : ρ.nm[i]? = some a) : ∃ vs, SqL S.K H a vs ∧ Reps S ρ H xs vs := by
  unfold lstAt at e
  split at e
  · rename_i ys hy
    cases e
    have o := R.ob i _ a hy ea
    cases o with
    | lst h1 h2 => exact ⟨_, .inl (.inl h1), h2⟩
  · rename_i ys hy
    cases e
    have o := R.ob i _ a hy ea
    cases o with
    | fro h1 => exact ⟨_, .inl (.inr ⟨_, h1⟩), reps_ints _⟩
  · cases e
end
def opt (o : Option Val) (h : Hea) : Res Val := match o with
  | some d => .ok d h
  | none => .stuck
section
variable {S : Sy} {ρ : Own} {H : Hp} {h : Hea} {Q : VK} {W : XK}
theorem Aft.same {d : Val} {v : V} (a : Aft S ρ H (.ok d h) Q W) (R : Rel S ρ h H) (r : Rep S ρ H d v) : Q v H := a ρ v H .rfl R r
theorem Aft.tup {ds : List Val} {vs : List V} (a : Aft S ρ H (.ok (.tup ds) h) Q W) (R : Rel S ρ h H) (r : Reps S ρ H ds vs) : NewT H vs Q := fun p ob n z =>
  a ρ (.ref p) _ (.side n) (R.side n) (.tup (.inl ⟨ob, upd_same, z⟩) (r.mono (.side n)))
theorem Aft.new {ds : List Val} {vs : List V} (a : Aft S ρ H (.ok (.ref h.length) (h ++ [.lst ds])) Q W) (R : Rel S ρ h H) (r : Reps S ρ H ds vs) (p : Addr) (n : H p = none) : Q (.ref p) (upd H p (.lst vs)) :=
  a (ρ.add p) (.ref p) _ (.new n) (R.new n (.lst upd_same (r.mono (.new n)))) (.ref (by rw [R.len]; exact add_at))
end
section
variable {S : Sy} {ρ : Own} {H : Hp} {h : Hea} {Q : VK} {W : XK}
/-- a list that nothing changes any more -/
theorem Aft.flst {ds : List Val} {vs : List V} (a : Aft S ρ H (.ok (.lst ds) h) Q W) (R : Rel S ρ h H) (r : Reps S ρ H ds vs) (p : Addr) (n : H p = none) : Q (.ref p) (upd H p (.lst vs)) :=
  a ρ (.ref p) _ (.side n) (R.side n) (.lst (R.fz n) upd_same (r.mono (.side n)))
/-- a list, to be read -/
def lstOf (h : Hea) : Val → Option (List Val)
  | .lst xs => some xs
  | .ref i => lstAt h i
  | _ => none
theorem Rel.lstV (R : Rel S ρ h H) {d : Val} {v : V} {xs : List Val} (r : Rep S ρ H d v) (e : lstOf h d = some xs) : ∃ a vs, v = .ref a ∧ SqL S.K H a vs ∧ Reps S ρ H xs vs := by
  unfold lstOf at e
  split at e
  · cases e
    cases r with
    | lst f h1 h2 => exact ⟨_, _, rfl, .inl (.inl h1), h2⟩
  · obtain ⟨p, rfl, ep⟩ := r.ref_
    obtain ⟨vs, s, q⟩ := R.lst e ep
    exact ⟨p, vs, rfl, s, q⟩
  · cases e
/-- a list other than the script -/
def lstP (h : Hea) : Val → Option (List Val)
  | .lst xs => some xs
  | .ref i => match h[i]? with
    | some (.lst xs) => some xs
    | _ => none
  | _ => none
theorem Rel.lstQ (R : Rel S ρ h H) {d : Val} {v : V} {xs : List Val} (r : Rep S ρ H d v) (e : lstP h d = some xs) : ∃ a vs, v = .ref a ∧ H a = some (.lst vs) ∧ Reps S ρ H xs vs := by
  unfold lstP at e
  split at e
  · cases e
    cases r with
    | lst f h1 h2 => exact ⟨_, _, rfl, h1, h2⟩
  · obtain ⟨p, rfl, ep⟩ := r.ref_
    split at e
    · rename_i hx
      cases e
      have o := R.ob _ _ _ hx ep
      cases o with
      | lst h1 h2 => exact ⟨p, _, rfl, h1, h2⟩
    · cases e
  · cases e
end
theorem Reps.times {S : Sy} {ρ : Own} {H : Hp} {ds : List Val} {vs : List V} (r : Reps S ρ H ds vs) : ∀ n : Nat, Reps S ρ H (List.replicate n ds).flatten (List.replicate n vs).flatten
  | 0 => .nil
  | n + 1 => by
    rw [List.replicate_succ, List.replicate_succ, List.flatten_cons, List.flatten_cons]
    exact r.app (r.times n)
def rB (S : Sy) (g : Hea → Val → Val → Option Val) : R2 := fun x y H Q => ∃ ρ h d1 d2, Rel S ρ h H ∧ Rep S ρ H d1 x ∧ Rep S ρ H d2 y ∧ Aft S ρ H (opt (g h d1 d2) h) Q (fun _ _ _ => False)
def rU1 (S : Sy) (g : Hea → Val → Option Val) : V → Hp → VK → Prop := fun x H Q => ∃ ρ h d, Rel S ρ h H ∧ Rep S ρ H d x ∧ Aft S ρ H (opt (g h d) h) Q (fun _ _ _ => False)
theorem OpR.imp {X : Cx} {f : Value → Value → Sem Value} {r r' : R2} (p : OpR X f r) (h : ∀ x y H Q, r' x y H Q → r x y H Q) : OpR X f r' := fun pins s σ H x y v u Q I rx ry q => p pins s σ H x y v u Q I rx ry (h x y H Q q)
def mulOk (i j : Int) : Bool := decide ((-(2 ^ 64) < i ∧ i < 2 ^ 64) ∨ (-(2 ^ 64) < j ∧ j < 2 ^ 64)) || decide (i.natAbs.log2 + j.natAbs.log2 < 1000000)
def oAdd : Hea → Val → Val → Option Val
  | _, .int a, .int b => some (.int (a + b))
  | _, .str a, .str b => if a.length + b.length ≤ 16777216 then some (.str (a ++ b)) else none
  | _, .tup a, .tup b => if a.length + b.length ≤ 16777216 then some (.tup (a ++ b)) else none
  | h, a, b => match lstP h a, lstP h b with
    | some a, some b => if a.length + b.length ≤ 16777216 then some (.lst (a ++ b)) else none
    | _, _ => none
def oSub : Hea → Val → Val → Option Val
  | _, .int a, .int b => some (.int (a - b))
  | _, _, _ => none
def oMul : Hea → Val → Val → Option Val
  | _, .int a, .int b => if mulOk a b = true then some (.int (a * b)) else none
  | h, a, .int k => match lstP h a with
    | some xs => if -(2 ^ 63) ≤ k ∧ k < 2 ^ 63 ∧ xs.length * k.toNat ≤ 16777216 then some (.lst (List.replicate k.toNat xs).flatten) else none
    | none => none
  | _, _, _ => none
def oDiv : Hea → Val → Val → Option Val
  | _, .int a, .int b => if b ≠ 0 ∧ b.natAbs.log2 < 9000 then some (.int (a.fdiv b)) else none
  | _, _, _ => none
def oMod : Hea → Val → Val → Option Val
  | _, .int a, .int b => if b ≠ 0 then some (.int (a.fmod b)) else none
  | _, _, _ => none
def oPow : Hea → Val → Val → Option Val
  | _, .int a, .int b => if 0 ≤ b ∧ b ≤ 1000000 ∧ a.natAbs < 2 ^ 64 then some (.int (a ^ b.toNat)) else none
  | _, _, _ => none
def oNeg : Hea → Val → Option Val
  | _, .int a => some (.int (-a))
  | _, _ => none
section
variable {T : Tb} {X : Cx}
theorem o_add : OpR X (binaryOp .Add) (rB (sy T X) oAdd) := by
  refine OpR.imp (OpR.or op_add (OpR.or op_add_str (OpR.or op_catS op_cat))) fun x y H Q h => ?_
  obtain ⟨ρ, h, d1, d2, R, r1, r2, a⟩ := h
  unfold oAdd at a
  split at a
  · obtain rfl := r1.int_; obtain rfl := r2.int_
    exact .inl ⟨_, _, rfl, rfl, a.same R (.int _)⟩
  · obtain rfl := r1.str_; obtain rfl := r2.str_
    split at a
    · rename_i hl
      exact .inr (.inl ⟨_, _, rfl, rfl, by rw [sizeLine_eq]; exact hl, a.same R (.str _)⟩)
    · exact a.elim
  · obtain ⟨p1, v1, rfl, s1, q1⟩ := r1.tup_
    obtain ⟨p2, v2, rfl, s2, q2⟩ := r2.tup_
    split at a
    · rename_i hl
      have l1 := q1.length
      have l2 := q2.length
      refine .inr (.inr (.inl ⟨p1, p2, v1, v2, rfl, rfl, s1.sq, s2.sq, by rw [sizeLine_eq]; omega, fun e => ?_, fun _ e => ?_, fun _ _ => ?_⟩))
      · subst e
        cases q1
        exact a.same R (.tup s2 q2)
      · subst e
        cases q2
        have a : Aft _ ρ H (.ok (.tup (_ ++ [])) h) Q _ := a
        rw [List.append_nil] at a
        exact a.same R (.tup s1 q1)
      · exact a.tup R (q1.app q2)
    · exact a.elim
  · split at a
    · rename_i xs ys e1 e2
      obtain ⟨p1, v1, rfl, s1, q1⟩ := R.lstQ r1 e1
      obtain ⟨p2, v2, rfl, s2, q2⟩ := R.lstQ r2 e2
      have l1 := q1.length
      have l2 := q2.length
      split at a
      · exact .inr (.inr (.inr ⟨p1, p2, v1, v2, rfl, rfl, s1, s2, by rw [sizeLine_eq]; omega, fun p n => Aft.flst a R (q1.app q2) p n⟩))
      · exact a.elim
    · exact a.elim
theorem o_sub : OpR X (binaryOp .Sub) (rB (sy T X) oSub) := by
  refine OpR.imp op_sub fun x y H Q h => ?_
  obtain ⟨ρ, h, d1, d2, R, r1, r2, a⟩ := h
  unfold oSub at a
  split at a
  · obtain rfl := r1.int_; obtain rfl := r2.int_
    exact ⟨_, _, rfl, rfl, a.same R (.int _)⟩
  · exact a.elim
theorem o_mul : OpR X (binaryOp .Mult) (rB (sy T X) oMul) := by
  refine OpR.imp (OpR.or op_mul (OpR.or op_mulW op_rep)) fun x y H Q h => ?_
  obtain ⟨ρ, h, d1, d2, R, r1, r2, a⟩ := h
  unfold oMul at a
  split at a
  · obtain rfl := r1.int_; obtain rfl := r2.int_
    split at a
    · rename_i hm
      unfold mulOk at hm
      rcases Bool.or_eq_true_iff.mp hm with hm | hm
      · have hm2 := of_decide_eq_true hm
        exact .inl ⟨_, _, rfl, rfl, hm2, a.same R (.int _)⟩
      · exact .inr (.inl ⟨_, _, rfl, rfl, (of_decide_eq_true (p := _ < 1000000) hm : _ < 1000000), a.same R (.int _)⟩)
    · exact a.elim
  · obtain rfl := r2.int_
    split at a
    · rename_i xs e1
      split at a
      · rename_i hk
        obtain ⟨p1, v1, rfl, s1, q1⟩ := R.lstQ r1 e1
        have l1 := q1.length
        exact .inr (.inr ⟨p1, _, v1, rfl, rfl, s1, hk.1, hk.2.1, by rw [sizeLine_eq, ← l1]; exact hk.2.2, fun p n => Aft.flst a R (q1.times _) p n⟩)
      · exact a.elim
    · exact a.elim
  · exact a.elim
theorem op_fdivA : OpR X (binaryOp .FloorDiv) (rI (fun _ j => j ≠ 0 ∧ j.natAbs.log2 < 9000) fun i j => .int (i.fdiv j)) := opI fun _ _ _ _ _ _ _ hc q => PyProof.Rows.floordiv_int hc.1 q (.inl (PyProof.noPylong_of_log2 hc.2))
theorem o_div : OpR X (binaryOp .FloorDiv) (rB (sy T X) oDiv) := by
  refine OpR.imp op_fdivA fun x y H Q h => ?_
  obtain ⟨ρ, h, d1, d2, R, r1, r2, a⟩ := h
  unfold oDiv at a
  split at a
  · obtain rfl := r1.int_; obtain rfl := r2.int_
    split at a
    · rename_i hm
      exact ⟨_, _, rfl, rfl, hm, a.same R (.int _)⟩
    · exact a.elim
  · exact a.elim
theorem o_mod : OpR X (binaryOp .Mod) (rB (sy T X) oMod) := by
  refine OpR.imp op_modN fun x y H Q h => ?_
  obtain ⟨ρ, h, d1, d2, R, r1, r2, a⟩ := h
  unfold oMod at a
  split at a
  · obtain rfl := r1.int_; obtain rfl := r2.int_
    split at a
    · rename_i hm
      exact ⟨_, _, rfl, rfl, hm, a.same R (.int _)⟩
    · exact a.elim
  · exact a.elim
theorem o_pow : OpR X (binaryOp .Pow) (rB (sy T X) oPow) := by
  refine OpR.imp op_pow fun x y H Q h => ?_
  obtain ⟨ρ, h, d1, d2, R, r1, r2, a⟩ := h
  unfold oPow at a
  split at a
  · obtain rfl := r1.int_; obtain rfl := r2.int_
    split at a
    · rename_i hm
      exact ⟨_, _, rfl, rfl, hm, a.same R (.int _)⟩
    · exact a.elim
  · exact a.elim
theorem o_neg : UnR X (unaryOp .USub) (rU1 (sy T X) oNeg) := by
  intro pins s σ H x v Q I rx h
  refine un_neg pins s σ H x v Q I rx ?_
  obtain ⟨ρ, h, d, R, r, a⟩ := h
  unfold oNeg at a
  split at a
  · obtain rfl := r.int_
    exact ⟨_, rfl, a.same R (.int _)⟩
  · exact a.elim
end
def mapO {α β : Type} (f : α → Option β) : List α → Option (List β)
  | [] => some []
  | x :: xs => match f x, mapO f xs with
    | some y, some ys => some (y :: ys)
    | _, _ => none
def toD : Nat → Hea → Val → Option PyData
  | _, _, .non => some .none
  | _, _, .bl b => some (.bool b)
  | _, _, .int i => some (.int i)
  | _, _, .str x => some (.str x)
  | 0, _, _ => none
  | n + 1, h, .tup xs => match mapO (toD n h) xs with
    | some ys => some (.tuple ys)
    | none => none
  | n + 1, h, .lst xs => match mapO (toD n h) xs with
    | some ys => some (.list ys)
    | none => none
  | n + 1, h, .ref i => match lstAt h i with
    | some xs => match mapO (toD n h) xs with
      | some ys => some (.list ys)
      | none => none
    | none => none
  | _ + 1, _, _ => none
section
variable {S : Sy} {ρ : Own} {H : Hp} {h : Hea}
theorem mapO_dp (n : Nat) (ih : ∀ (d : Val) (v : V) (p : PyData), Rep S ρ H d v → toD n h d = some p → Dp S.K H v p) : ∀ (xs : List Val) (vs : List V) (ps : List PyData), Reps S ρ H xs vs → mapO (toD n h) xs = some ps → DpAll S.K H vs ps
  | [], _, _, .nil, e => by cases e; exact .nil
  | x :: xs, _, _, .cons r t, e => by
    unfold mapO at e
    split at e
    · rename_i y ys h1 h2
      cases e
      exact .cons (ih _ _ _ r h1) (mapO_dp n ih xs _ _ t h2)
    · cases e
theorem toD_dp (R : Rel S ρ h H) : ∀ (n : Nat) (d : Val) (v : V) (p : PyData), Rep S ρ H d v → toD n h d = some p → Dp S.K H v p := by
  intro n
  induction n with
  | zero =>
    intro d v p r e
    cases r <;> simp only [toD] at e <;> cases e <;> constructor
  | succ n ih =>
    intro d v p r e
    cases r with
    | non => simp only [toD] at e; cases e; exact .non
    | bl b => simp only [toD] at e; cases e; exact .bl b
    | int b => simp only [toD] at e; cases e; exact .int b
    | str b => simp only [toD] at e; cases e; exact .str b
    | tup s t =>
      simp only [toD] at e
      split at e
      · rename_i ys hy
        cases e
        exact .tup s.sq (mapO_dp n ih _ _ _ t hy)
      · cases e
    | lst f h1 h2 =>
      simp only [toD] at e
      split at e
      · rename_i ys hy
        cases e
        exact .lst (.inl (.inl h1)) (mapO_dp n ih _ _ _ h2 hy)
      · cases e
    | dicK => simp only [toD] at e; cases e
    | dicT => simp only [toD] at e; cases e
    | obj => simp only [toD] at e; cases e
    | ref ea =>
      simp only [toD] at e
      split at e
      · rename_i xs hx
        split at e
        · rename_i ys hy
          cases e
          obtain ⟨vs, s, t⟩ := R.lst hx ea
          exact .lst s (mapO_dp n ih _ _ _ t hy)
        · cases e
      · cases e
    | exn h1 h2 r => simp only [toD] at e; cases e
end
def eqB (h : Hea) (a b : Val) : Option Bool := match toD 60 h a, toD 60 h b with
  | some p, some q => if SeqAt.shaped p = true ∧ SeqAt.shaped q = true then some (PyData.eqv p q) else none
  | _, _ => none
def oEq (h : Hea) (a b : Val) : Option Val := (eqB h a b).map .bl
def oNe (h : Hea) (a b : Val) : Option Val := (eqB h a b).map fun c => .bl (!c)
theorem eqB_some {h : Hea} {a b : Val} {c : Bool} (e : eqB h a b = some c) : ∃ p q, toD 60 h a = some p ∧ toD 60 h b = some q ∧ SeqAt.shaped p = true ∧ SeqAt.shaped q = true ∧ c = PyData.eqv p q := by
  unfold eqB at e
  split at e
  · split at e
    · rename_i p q h1 h2 hs
      cases e
      exact ⟨p, q, h1, h2, hs.1, hs.2, rfl⟩
    · cases e
  · cases e
section
variable {T : Tb} {X : Cx}
theorem o_eq (hu : X.A.units + 64 < cLine) : OpR X (compareOp .Eq) (rB (sy T X) oEq) := by
  refine OpR.imp (op_eqD hu) fun x y H Q h => ?_
  obtain ⟨ρ, h, d1, d2, R, r1, r2, a⟩ := h
  unfold oEq at a
  cases e : eqB h d1 d2 with
  | none => rw [e] at a; exact a.elim
  | some c =>
    rw [e] at a
    obtain ⟨p, q, e1, e2, s1, s2, rfl⟩ := eqB_some e
    exact ⟨p, q, toD_dp R _ _ _ _ r1 e1, toD_dp R _ _ _ _ r2 e2, s1, s2, Aft.same (d := .bl _) a R (.bl _)⟩
theorem o_ne (hu : X.A.units + 64 < cLine) : OpR X (compareOp .NotEq) (rB (sy T X) oNe) := by
  refine OpR.imp (op_neD hu) fun x y H Q h => ?_
  obtain ⟨ρ, h, d1, d2, R, r1, r2, a⟩ := h
  unfold oNe at a
  cases e : eqB h d1 d2 with
  | none => rw [e] at a; exact a.elim
  | some c =>
    rw [e] at a
    obtain ⟨p, q, e1, e2, s1, s2, rfl⟩ := eqB_some e
    exact ⟨p, q, toD_dp R _ _ _ _ r1 e1, toD_dp R _ _ _ _ r2 e2, s1, s2, Aft.same (d := .bl _) a R (.bl _)⟩
end
def inB (h : Hea) (a b : Val) : Option Bool := match toD 60 h a, toD 60 h b with
  | some p, some (.list qs) => if SeqAt.shaped p = true ∧ SeqAt.shaped (.list qs) = true then some (qs.any fun z => PyData.eqv z p) else none
  | some p, some (.tuple qs) => if SeqAt.shaped p = true ∧ SeqAt.shaped (.tuple qs) = true then some (qs.any fun z => PyData.eqv z p) else none
  | some (.str p), some (.str q) => some (!(Builtin.Str.occurrences q p 0 q.length 1).isEmpty)
  | _, _ => none
def oIn (h : Hea) (a b : Val) : Option Val := (inB h a b).map .bl
def oNotIn (h : Hea) (a b : Val) : Option Val := (inB h a b).map fun c => .bl (!c)
theorem toD_str {n : Nat} {h : Hea} {d : Val} {p : Str} (e : toD n h d = some (.str p)) : d = .str p := by
  cases d with
  | str z => cases n <;> (simp only [toD] at e; cases e; rfl)
  | non => cases n <;> (simp only [toD] at e; cases e)
  | bl z => cases n <;> (simp only [toD] at e; cases e)
  | int z => cases n <;> (simp only [toD] at e; cases e)
  | exn c z => cases n <;> (simp only [toD] at e; cases e)
  | dic c z w => cases n <;> (simp only [toD] at e; cases e)
  | obj c z w => cases n <;> (simp only [toD] at e; cases e)
  | lst z =>
    cases n with
    | zero => simp only [toD] at e; cases e
    | succ n =>
      simp only [toD] at e
      split at e <;> cases e
  | tup z =>
    cases n with
    | zero => simp only [toD] at e; cases e
    | succ n =>
      simp only [toD] at e
      split at e <;> cases e
  | ref z =>
    cases n with
    | zero => simp only [toD] at e; cases e
    | succ n =>
      simp only [toD] at e
      split at e
      · split at e <;> cases e
      · cases e
section
variable {T : Tb} {X : Cx}
def rInT (K : PySem.W.Frag) (ng : Bool) : R2 := fun x y H Q => ∃ d ds, Dp K H x d ∧ Dp K H y (.tuple ds) ∧ SeqAt.shaped d = true ∧ SeqAt.shaped (.tuple ds) = true ∧ Q (.bl (if ng = true then !ds.any (fun z => PyData.eqv z d) else ds.any fun z => PyData.eqv z d)) H
theorem op_inT (hu : X.A.units + 65 < cLine) : OpR X (compareOp .In) (rInT X.K false) := by
  intro pins s σ H x y v u Q I rx ry h
  obtain ⟨d, ds, hd, he, sd, se, q⟩ := h
  obtain ⟨as, r1⟩ := Dp.reads I d x v hd rx
  obtain ⟨bs, r2⟩ := Dp.reads I (.tuple ds) y u he ry
  exact SeqAt.in_tuple_reads r2 r1 (SeqAt.canLay_of_shaped se) (SeqAt.canLay_of_shaped sd) (PyProof.Rows.room_in_shaped sd hu) ⟨.bl _, H, I, rfl, q⟩
theorem o_in (hu : X.A.units + 65 < cLine) : OpR X (compareOp .In) (rB (sy T X) oIn) := by
  refine OpR.imp (OpR.or (op_inD hu) (OpR.or (op_inT hu) op_in_str)) fun x y H Q h => ?_
  obtain ⟨ρ, h, d1, d2, R, r1, r2, a⟩ := h
  unfold oIn inB at a
  split at a
  · rename_i p qs e1 e2
    split at a
    · rename_i hs
      exact .inl ⟨p, qs, toD_dp R _ _ _ _ r1 e1, toD_dp R _ _ _ _ r2 e2, hs.1, hs.2, Aft.same (d := .bl _) a R (.bl _)⟩
    · exact a.elim
  · rename_i p qs e1 e2
    split at a
    · rename_i hs
      exact .inr (.inl ⟨p, qs, toD_dp R _ _ _ _ r1 e1, toD_dp R _ _ _ _ r2 e2, hs.1, hs.2, Aft.same (d := .bl _) a R (.bl _)⟩)
    · exact a.elim
  · rename_i p q e1 e2
    obtain rfl := toD_str e1
    obtain rfl := toD_str e2
    obtain rfl := r1.str_
    obtain rfl := r2.str_
    exact .inr (.inr ⟨p, q, rfl, rfl, Aft.same (d := .bl _) a R (.bl _)⟩)
  · exact a.elim
end
def oLt : Hea → Val → Val → Option Val
  | _, .int a, .int b => some (.bl (decide (a < b)))
  | _, .str a, .str b => some (.bl (decide (a.cps.toList < b.cps.toList)))
  | _, _, _ => none
def oLe : Hea → Val → Val → Option Val
  | _, .int a, .int b => some (.bl (decide (a ≤ b)))
  | _, _, _ => none
def oGt : Hea → Val → Val → Option Val
  | _, .int a, .int b => some (.bl (decide (b < a)))
  | _, _, _ => none
def oGe : Hea → Val → Val → Option Val
  | _, .int a, .int b => some (.bl (decide (b ≤ a)))
  | _, _, _ => none
/-- is, is not: None or a bool on the right -/
def isB : Val → Val → Option Bool
  | .non, .non => some true
  | _, .non => some false
  | .bl a, .bl b => some (decide (a = b))
  | _, _ => none
def oIs (_ : Hea) (a b : Val) : Option Val := (isB a b).map .bl
def oIsNot (_ : Hea) (a b : Val) : Option Val := (isB a b).map fun c => .bl (!c)
section
variable {T : Tb} {X : Cx}
theorem o_lt : OpR X (compareOp .Lt) (rB (sy T X) oLt) := by
  refine OpR.imp (OpR.or op_lt op_lt_str) fun x y H Q h => ?_
  obtain ⟨ρ, h, d1, d2, R, r1, r2, a⟩ := h
  unfold oLt at a
  split at a
  · obtain rfl := r1.int_; obtain rfl := r2.int_
    exact .inl ⟨_, _, rfl, rfl, a.same R (.bl _)⟩
  · obtain rfl := r1.str_; obtain rfl := r2.str_
    exact .inr ⟨_, _, rfl, rfl, a.same R (.bl _)⟩
  · exact a.elim
theorem o_le : OpR X (compareOp .LtE) (rB (sy T X) oLe) := by
  refine OpR.imp op_le fun x y H Q h => ?_
  obtain ⟨ρ, h, d1, d2, R, r1, r2, a⟩ := h
  unfold oLe at a
  split at a
  · obtain rfl := r1.int_; obtain rfl := r2.int_
    exact ⟨_, _, rfl, rfl, a.same R (.bl _)⟩
  · exact a.elim
theorem o_gt : OpR X (compareOp .Gt) (rB (sy T X) oGt) := by
  refine OpR.imp op_gt fun x y H Q h => ?_
  obtain ⟨ρ, h, d1, d2, R, r1, r2, a⟩ := h
  unfold oGt at a
  split at a
  · obtain rfl := r1.int_; obtain rfl := r2.int_
    exact ⟨_, _, rfl, rfl, a.same R (.bl _)⟩
  · exact a.elim
theorem o_ge : OpR X (compareOp .GtE) (rB (sy T X) oGe) := by
  refine OpR.imp op_ge fun x y H Q h => ?_
  obtain ⟨ρ, h, d1, d2, R, r1, r2, a⟩ := h
  unfold oGe at a
  split at a
  · obtain rfl := r1.int_; obtain rfl := r2.int_
    exact ⟨_, _, rfl, rfl, a.same R (.bl _)⟩
  · exact a.elim
theorem o_is : OpR X (compareOp .Is) (rB (sy T X) oIs) := by
  refine OpR.imp (OpR.or op_isN op_is_bl) fun x y H Q h => ?_
  obtain ⟨ρ, h, d1, d2, R, r1, r2, a⟩ := h
  unfold oIs isB at a
  split at a
  · obtain rfl := r1.non_; obtain rfl := r2.non_
    exact .inl ⟨rfl, Aft.same (d := .bl _) a R (.bl _)⟩
  · rename_i hn
    obtain rfl := r2.non_
    refine .inl ⟨rfl, ?_⟩
    have e : decide (x = V.non) = false := by
      refine decide_eq_false fun z => ?_
      subst z
      cases r1
      exact hn rfl
    rw [e]
    exact Aft.same (d := .bl _) a R (.bl _)
  · obtain rfl := r1.bl_; obtain rfl := r2.bl_
    exact .inr ⟨_, _, rfl, rfl, Aft.same (d := .bl _) a R (.bl _)⟩
  · exact a.elim
theorem o_isNot : OpR X (compareOp .IsNot) (rB (sy T X) oIsNot) := by
  refine OpR.imp (OpR.or op_notN op_isnot_bl) fun x y H Q h => ?_
  obtain ⟨ρ, h, d1, d2, R, r1, r2, a⟩ := h
  unfold oIsNot isB at a
  split at a
  · obtain rfl := r1.non_; obtain rfl := r2.non_
    exact .inl ⟨rfl, Aft.same (d := .bl _) a R (.bl _)⟩
  · rename_i hn
    obtain rfl := r2.non_
    refine .inl ⟨rfl, ?_⟩
    have e : decide (x = V.non) = false := by
      refine decide_eq_false fun z => ?_
      subst z
      cases r1
      exact hn rfl
    rw [e]
    exact Aft.same (d := .bl _) a R (.bl _)
  · obtain rfl := r1.bl_; obtain rfl := r2.bl_
    exact .inr ⟨_, _, rfl, rfl, Aft.same (d := .bl _) a R (.bl _)⟩
  · exact a.elim
end
end Lad
end
section
set_option maxRecDepth 100000
set_option maxHeartbeats 1000000
namespace Lad
open PySem L2
theorem itT {c : Bool} {A B : Prop} (e : c = true) (h : A) : if c = true then A else B := by rw [if_pos e]; exact h
theorem itF {c : Bool} {A B : Prop} (e : c = false) (h : B) : if c = true then A else B := by rw [if_neg (by rw [e]; decide)]; exact h
section
variable (S : Sy)
def AftL (ρ : Own) (H : Hp) (r : Res (List Val)) (Q : VK) (W : XK) : Prop := match r with
  | .ok xs h' => ∀ ρ' p vs H', Go S ρ H ρ' H' → Rel S ρ' h' H' → H' p = some (.lst vs) → Fz ρ' p → H p = none → Reps S ρ' H' xs vs → Rel S (ρ'.add p) (h' ++ [.lst xs]) H' → Q (.ref p) H'
  | .exc c d h' => ∀ ρ' v H' dx, Go S ρ H ρ' H' → Rel S ρ' h' H' → Rep S ρ' H' d v → H' dx = some (.xd [(S.fld c, v)]) → W (.ref (S.ca c)) (some dx) H'
  | .stuck => False
def AftA (ρ : Own) (H : Hp) (r : Res (List Val)) (Q : List V → Hp → Prop) (W : XK) : Prop := match r with
  | .ok xs h' => ∀ ρ' vs H', Go S ρ H ρ' H' → Rel S ρ' h' H' → Reps S ρ' H' xs vs → Q vs H'
  | .exc c d h' => ∀ ρ' v H' dx, Go S ρ H ρ' H' → Rel S ρ' h' H' → Rep S ρ' H' d v → H' dx = some (.xd [(S.fld c, v)]) → W (.ref (S.ca c)) (some dx) H'
  | .stuck => False
def tL (W : WX) (f : En → Hea → Res (List Val)) : TE := fun σ H Q => ∃ ρ e h, Rel S ρ h H ∧ ER S ρ H e σ ∧ AftL S ρ H (f e h) Q (fun c d H' => W c d σ H')
def tA (W : WX) (f : En → Hea → Res (List Val)) : TA := fun σ H Q => ∃ ρ e h, Rel S ρ h H ∧ ER S ρ H e σ ∧ AftA S ρ H (f e h) Q (fun c d H' => W c d σ H')
end
abbrev SE (T : Tb) (X : Cx) (W : WX) (e : Expr) (f : En → Hea → Res Val) : Prop := PE X e (tE (sy T X) W f)
abbrev SL (T : Tb) (X : Cx) (W : WX) (e : Expr) (f : En → Hea → Res (List Val)) : Prop := PE X e (tL (sy T X) W f)
abbrev SA (T : Tb) (X : Cx) (W : WX) (es : List Expr) (f : En → Hea → Res (List Val)) : Prop := PA X es (tA (sy T X) W f)
abbrev ST (T : Tb) (X : Cx) (W : WX) (e : Expr) (f : En → Hea → Res Val) : Prop := PT X e (tB (tE (sy T X) W f))
section
variable {S : Sy} {W : WX} {σ : St} {H : Hp} {Q : VK}
/-- where an expression has been -/
structure Been (S : Sy) (σ : St) (H : Hp) (v : V) (ρ : Own) (e : En) (d : Val) (h : Hea) : Prop where
  rel : Rel S ρ h H
  env : ER S ρ H e σ
  rep : Rep S ρ H d v
theorem tE.bind {f : En → Hea → Res Val} {g : En → Val → Hea → Res Val} (a : tE S W (fun e h => (f e h).bind (g e)) σ H Q) :
    tE S W f σ H (fun v H1 => ∃ ρ e d h, Been S σ H1 v ρ e d h ∧ Aft S ρ H1 (g e d h) Q (fun c d H' => W c d σ H')) := by
  obtain ⟨ρ, e, h, R, E, a⟩ := a
  exact ⟨ρ, e, h, R, E, a.bind.mono fun v H1 ⟨ρ1, d, h1, s, R1, r, a⟩ => ⟨ρ1, e, d, h1, ⟨R1, E.go s, r⟩, a⟩⟩
/-- a second one behind it -/
theorem Been.then_ {v : V} {ρ : Own} {e : En} {d : Val} {h : Hea} {f : En → Hea → Res Val} {k : Val → Hea → Res Val} (b : Been S σ H v ρ e d h) (a : Aft S ρ H ((f e h).bind k) Q (fun c d H' => W c d σ H')) :
    tE S W f σ H (fun v2 H2 => ∃ ρ2 d2 h2, Been S σ H2 v2 ρ2 e d2 h2 ∧ Rep S ρ2 H2 d v ∧ Aft S ρ2 H2 (k d2 h2) Q (fun c d H' => W c d σ H')) :=
  ⟨ρ, e, h, b.rel, b.env, a.bind.mono fun v2 H2 ⟨ρ2, d2, h2, s, R2, r2, a2⟩ => ⟨ρ2, d2, h2, ⟨R2, b.env.go s, r2⟩, b.rep.go s, a2⟩⟩
theorem Aft.noW {ρ : Own} {h : Hea} {o : Option Val} {W W' : XK} (a : Aft S ρ H (opt o h) Q W) : Aft S ρ H (opt o h) Q W' := by
  cases o with
  | some d => exact a
  | none => exact a
end
def eVar (i : Nat) : En → Hea → Res Val := fun e h => match e[i]? with
  | some (some d) => .ok d h
  | _ => .stuck
def eC (d : Val) : En → Hea → Res Val := fun _ h => .ok d h
section
variable {T : Tb} {X : Cx} {W : WX}
theorem se_var {i : Nat} {x : Str} {pos : Pos} (p : PE X (.Name x pos) (tVar i)) : SE T X W (.Name x pos) (eVar i) := p.imp fun σ H Q h => by
  obtain ⟨ρ, e, h, R, E, a⟩ := h
  unfold eVar at a
  split at a
  · rename_i d hd
    obtain ⟨v, ev, r⟩ := E.get hd
    exact ⟨v, ev, a.same R r⟩
  · exact a.elim
theorem se_cst {e : Expr} {d : Val} {v : V} (p : PE X e (tC v)) (hr : ∀ ρ H, Rep (sy T X) ρ H d v) : SE T X W e (eC d) := p.imp fun σ H Q h => by
  obtain ⟨ρ, e, h, R, E, a⟩ := h
  exact a.same R (hr ρ H)
theorem se_int {i j pos} : SE T X W (.Constant (.int i) j pos) (eC (.int i)) := se_cst pe_int fun _ _ => .int i
theorem se_bl {i j pos} : SE T X W (.Constant (.bool i) j pos) (eC (.bl i)) := se_cst pe_bl fun _ _ => .bl i
theorem se_non {j pos} : SE T X W (.Constant .none j pos) (eC .non) := se_cst pe_non fun _ _ => .non
theorem se_str {i j pos} : SE T X W (.Constant (.str i) j pos) (eC (.str i)) := se_cst pe_str fun _ _ => .str i
end
def eBin (g : Hea → Val → Val → Option Val) (f1 f2 : En → Hea → Res Val) : En → Hea → Res Val := fun e h => (f1 e h).bind fun x h1 => (f2 e h1).bind fun y h2 => opt (g h2 x y) h2
def eUn (g : Hea → Val → Option Val) (f : En → Hea → Res Val) : En → Hea → Res Val := fun e h => (f e h).bind fun x h1 => opt (g h1 x) h1
section
variable {T : Tb} {X : Cx} {W : WX} {a b c : Expr} {f1 f2 f3 : En → Hea → Res Val} {pos : Pos}
theorem bin_imp {g : Hea → Val → Val → Option Val} {σ : St} {H : Hp} {Q : VK} (q : tE (sy T X) W (eBin g f1 f2) σ H Q) : tOp (rB (sy T X) g) (tE (sy T X) W f1) (tE (sy T X) W f2) σ H Q := by
  obtain ⟨ρ, e, h, R, E, a⟩ := tE.bind (f := f1) (g := fun e x h1 => (f2 e h1).bind fun y h2 => opt (g h2 x y) h2) q
  refine ⟨ρ, e, h, R, E, a.mono fun v H1 ⟨ρ1, e1, d1, h1, b1, a1⟩ => ?_⟩
  obtain ⟨ρ', e', h', R', E', a'⟩ := b1.then_ (f := f2) (W := W) a1
  exact ⟨ρ', e', h', R', E', a'.mono fun v2 H2 ⟨ρ2, d2, h2, b2, r, a2⟩ => ⟨ρ2, h2, d1, d2, b2.rel, r, b2.rep, a2.noW⟩⟩
theorem se_bin {op : Operator} {g : Hea → Val → Val → Option Val} (ho : OpR X (binaryOp op) (rB (sy T X) g)) (ha : SE T X W a f1) (hb : SE T X W b f2) : SE T X W (.BinOp a op b pos) (eBin g f1 f2) :=
  (pe_op ho ha hb).imp fun σ H Q q => bin_imp q
theorem se_un {op : UnaryOp} {g : Hea → Val → Option Val} (ho : UnR X (unaryOp op) (rU1 (sy T X) g)) (ha : SE T X W a f1) : SE T X W (.UnaryOp op a pos) (eUn g f1) :=
  (pe_un ho ha).imp fun σ H Q q => by
    obtain ⟨ρ, e, h, R, E, a⟩ := tE.bind (f := f1) (g := fun e x h1 => opt (g h1 x) h1) q
    exact ⟨ρ, e, h, R, E, a.mono fun v H1 ⟨ρ1, e1, d1, h1, b1, a1⟩ => ⟨ρ1, h1, d1, b1.rel, b1.rep, a1.noW⟩⟩
theorem se_cmp {op : CmpOp} {g : Hea → Val → Val → Option Val} (ho : OpR X (compareOp op) (rB (sy T X) g)) (ha : SE T X W a f1) (hb : SE T X W b f2) (hm : behindInMarks op b = false) : SE T X W (.Compare a [op] [b] pos) (eBin g f1 f2) :=
  (pe_cmpR ho ha hb hm).imp fun σ H Q q => bin_imp q
theorem st_cmp {op : CmpOp} {g : Hea → Val → Val → Option Val} (ho : OpR X (compareOp op) (rB (sy T X) g)) (ha : SE T X W a f1) (hb : SE T X W b f2) (hm : behindInMarks op b = false) : ST T X W (.Compare a [op] [b] pos) (eBin g f1 f2) :=
  (pt_cmpR ho ha hb hm).imp fun σ H Q q => bin_imp q
/-- a op b op' c -/
def eChain (g g' : Hea → Val → Val → Option Val) (f1 f2 f3 : En → Hea → Res Val) : En → Hea → Res Val := fun e h => (f1 e h).bind fun x h1 => (f2 e h1).bind fun y h2 => match g h2 x y with
  | some (.bl true) => (f3 e h2).bind fun z h3 => opt (g' h3 y z) h3
  | some (.bl false) => .ok (.bl false) h2
  | _ => .stuck
theorem chain_imp {g g' : Hea → Val → Val → Option Val} {σ : St} {H : Hp} {Q : VK} (q : tE (sy T X) W (eChain g g' f1 f2 f3) σ H Q) : tChain (rB (sy T X) g) (rB (sy T X) g') (tE (sy T X) W f1) (tE (sy T X) W f2) (tE (sy T X) W f3) σ H Q := by
  obtain ⟨ρ, e, h, R, E, a⟩ := tE.bind (f := f1) (g := fun e x h1 => (f2 e h1).bind fun y h2 => match g h2 x y with
    | some (.bl true) => (f3 e h2).bind fun z h3 => opt (g' h3 y z) h3
    | some (.bl false) => .ok (.bl false) h2
    | _ => .stuck) q
  refine ⟨ρ, e, h, R, E, a.mono fun v H1 ⟨ρ1, e1, d1, h1, b1, a1⟩ => ?_⟩
  obtain ⟨ρ', e', h', R', E', a'⟩ := b1.then_ (f := f2) (W := W) a1
  refine ⟨ρ', e', h', R', E', a'.mono fun v2 H2 ⟨ρ2, d2, h2, b2, r, a2⟩ => ⟨ρ2, h2, d1, d2, b2.rel, r, b2.rep, ?_⟩⟩
  split at a2
  · rename_i hg
    rw [hg]
    refine fun ρ3 v3 H3 s3 R3 r3 => ?_
    obtain rfl := r3.bl_
    refine ⟨true, rfl, ?_⟩
    refine itT rfl ?_
    have b3 : Been (sy T X) σ H3 v2 ρ3 e1 d2 h2 := ⟨R3, b2.env.go s3, b2.rep.go s3⟩
    obtain ⟨ρ4, e4, h4, R4, E4, a4⟩ := b3.then_ (f := f3) (W := W) (a2.later s3)
    exact ⟨ρ4, e4, h4, R4, E4, a4.mono fun v5 H5 ⟨ρ5, d5, h5, b5, r5, a5⟩ => ⟨ρ5, h5, d2, d5, b5.rel, r5, b5.rep, a5.noW⟩⟩
  · rename_i hg
    rw [hg]
    refine fun ρ3 v3 H3 s3 R3 r3 => ?_
    obtain rfl := r3.bl_
    refine ⟨false, rfl, ?_⟩
    refine itF rfl ?_
    exact a2 ρ3 _ H3 s3 R3 r3
  · exact a2.elim
end
def eAnd (f1 f2 : En → Hea → Res Val) : En → Hea → Res Val := fun e h => (f1 e h).bind fun x h1 => match x with
  | .bl true => f2 e h1
  | .bl false => .ok (.bl false) h1
  | _ => .stuck
def eOr (f1 f2 : En → Hea → Res Val) : En → Hea → Res Val := fun e h => (f1 e h).bind fun x h1 => match x with
  | .bl true => .ok (.bl true) h1
  | .bl false => f2 e h1
  | _ => .stuck
def oNot : Hea → Val → Option Val
  | _, .bl b => some (.bl (!b))
  | _, _ => none
def eIf (f1 f2 f3 : En → Hea → Res Val) : En → Hea → Res Val := fun e h => (f1 e h).bind fun x h1 => match x with
  | .bl true => f2 e h1
  | .bl false => f3 e h1
  | _ => .stuck
section
variable {T : Tb} {X : Cx} {W : WX} {a b c : Expr} {rest : List Expr} {f1 f2 f3 : En → Hea → Res Val} {pos : Pos}
theorem se_one {op} (h : SE T X W a f1) : SE T X W (.BoolOp op [a] pos) f1 := pe_one h
theorem se_and (ha : SE T X W a f1) (hb : SE T X W (.BoolOp .And (b :: rest) pos) f2) : SE T X W (.BoolOp .And (a :: b :: rest) pos) (eAnd f1 f2) := (pe_and ha hb).imp fun σ H Q q => by
  obtain ⟨ρ, e, h, R, E, a⟩ := tE.bind (f := f1) (g := fun e x h1 => match x with | .bl true => f2 e h1 | .bl false => .ok (.bl false) h1 | _ => .stuck) q
  refine ⟨ρ, e, h, R, E, a.mono fun v H1 ⟨ρ1, e1, d1, h1, b1, a1⟩ => ?_⟩
  obtain ⟨R1, E1, r1⟩ := b1
  split at a1
  · obtain rfl := r1.bl_
    refine ⟨true, rfl, ?_⟩
    refine itT rfl ?_
    exact ⟨ρ1, e1, h1, R1, E1, a1⟩
  · obtain rfl := r1.bl_
    refine ⟨false, rfl, ?_⟩
    refine itF rfl ?_
    exact a1.same R1 (.bl _)
  · exact a1.elim
theorem se_not (ha : SE T X W a f1) : SE T X W (.UnaryOp .Not a pos) (eUn oNot f1) := (pe_not ha).imp fun σ H Q q => by
  obtain ⟨ρ, e, h, R, E, a⟩ := tE.bind (f := f1) (g := fun e x h1 => opt (oNot h1 x) h1) q
  refine ⟨ρ, e, h, R, E, a.mono fun v H1 ⟨ρ1, e1, d1, h1, b1, a1⟩ => ?_⟩
  obtain ⟨R1, E1, r1⟩ := b1
  unfold oNot at a1
  split at a1
  · obtain rfl := r1.bl_
    exact ⟨_, rfl, a1.same R1 (.bl _)⟩
  · exact a1.elim
theorem st_val (h : SE T X W a f1) (he : ∀ whole, isTrue a X.env whole = (do let v ← whole; standAt a.pos; holding [v] (truthy v)) := by intro _; rfl) : ST T X W a f1 := pt_val h he
theorem sw_one (h : ST T X W a f1) : PW X (.BoolOp .And [a] pos) (tB (tE (sy T X) W f1)) := pw_and1 h
theorem sw_oneO (h : ST T X W a f1) : PW X (.BoolOp .Or [a] pos) (tB (tE (sy T X) W f1)) := pw_or1 h
theorem _root_.L2.PW.imp {e : Expr} {t t' : TT} (p : PW X e t) (h : ∀ σ H Q, t' σ H Q → t σ H Q) : PW X e t' := ⟨fun whole pins s σ H Q I q => p.run whole pins s σ H Q I (h σ H Q q)⟩
theorem sw_and (ha : ST T X W a f1) (hb : PW X (.BoolOp .And (b :: rest) pos) (tB (tE (sy T X) W f2))) : PW X (.BoolOp .And (a :: b :: rest) pos) (tB (tE (sy T X) W (eAnd f1 f2))) := (pw_and ha hb).imp fun σ H Q q => by
  obtain ⟨ρ, e, h, R, E, a⟩ := tE.bind (f := f1) (g := fun e x h1 => match x with | .bl true => f2 e h1 | .bl false => .ok (.bl false) h1 | _ => .stuck) q
  refine ⟨ρ, e, h, R, E, a.mono fun v H1 ⟨ρ1, e1, d1, h1, b1, a1⟩ => ?_⟩
  obtain ⟨R1, E1, r1⟩ := b1
  split at a1
  · obtain rfl := r1.bl_
    refine ⟨true, rfl, ?_⟩
    refine itT rfl ?_
    exact ⟨ρ1, e1, h1, R1, E1, a1⟩
  · obtain rfl := r1.bl_
    refine ⟨false, rfl, ?_⟩
    refine itF rfl ?_
    obtain ⟨c, ec, q⟩ := a1.same R1 (.bl _)
    cases ec
    exact q
  · exact a1.elim
theorem sw_or (ha : ST T X W a f1) (hb : PW X (.BoolOp .Or (b :: rest) pos) (tB (tE (sy T X) W f2))) : PW X (.BoolOp .Or (a :: b :: rest) pos) (tB (tE (sy T X) W (eOr f1 f2))) := (pw_or ha hb).imp fun σ H Q q => by
  obtain ⟨ρ, e, h, R, E, a⟩ := tE.bind (f := f1) (g := fun e x h1 => match x with | .bl true => .ok (.bl true) h1 | .bl false => f2 e h1 | _ => .stuck) q
  refine ⟨ρ, e, h, R, E, a.mono fun v H1 ⟨ρ1, e1, d1, h1, b1, a1⟩ => ?_⟩
  obtain ⟨R1, E1, r1⟩ := b1
  split at a1
  · obtain rfl := r1.bl_
    refine ⟨true, rfl, ?_⟩
    refine itT rfl ?_
    obtain ⟨c, ec, q⟩ := a1.same R1 (.bl _)
    cases ec
    exact q
  · obtain rfl := r1.bl_
    refine ⟨false, rfl, ?_⟩
    refine itF rfl ?_
    exact ⟨ρ1, e1, h1, R1, E1, a1⟩
  · exact a1.elim
theorem st_bool {op} (h : PW X (.BoolOp op (a :: rest) pos) (tB (tE (sy T X) W f1))) : ST T X W (.BoolOp op (a :: rest) pos) f1 := h.pt
theorem st_not (ha : ST T X W a f1) : ST T X W (.UnaryOp .Not a pos) (eUn oNot f1) := (pt_not ha).imp fun σ H Q q => by
  obtain ⟨ρ, e, h, R, E, a⟩ := tE.bind (f := f1) (g := fun e x h1 => opt (oNot h1 x) h1) q
  refine ⟨ρ, e, h, R, E, a.mono fun v H1 ⟨ρ1, e1, d1, h1, b1, a1⟩ => ?_⟩
  obtain ⟨R1, E1, r1⟩ := b1
  unfold oNot at a1
  split at a1
  · obtain rfl := r1.bl_
    obtain ⟨c, ec, q⟩ := a1.same R1 (.bl _)
    cases ec
    exact ⟨_, rfl, q⟩
  · exact a1.elim
theorem se_if (hc : ST T X W c f1) (ha : SE T X W a f2) (hb : SE T X W b f3) : SE T X W (.IfExp c a b pos) (eIf f1 f2 f3) := (pe_ifExp hc ha hb).imp fun σ H Q q => by
  obtain ⟨ρ, e, h, R, E, a⟩ := tE.bind (f := f1) (g := fun e x h1 => match x with | .bl true => f2 e h1 | .bl false => f3 e h1 | _ => .stuck) q
  refine ⟨ρ, e, h, R, E, a.mono fun v H1 ⟨ρ1, e1, d1, h1, b1, a1⟩ => ?_⟩
  obtain ⟨R1, E1, r1⟩ := b1
  split at a1
  · obtain rfl := r1.bl_
    refine ⟨true, rfl, ?_⟩
    refine itT rfl ?_
    exact ⟨ρ1, e1, h1, R1, E1, a1⟩
  · obtain rfl := r1.bl_
    refine ⟨false, rfl, ?_⟩
    refine itF rfl ?_
    exact ⟨ρ1, e1, h1, R1, E1, a1⟩
  · exact a1.elim
end
def aNil : En → Hea → Res (List Val) := fun _ h => .ok [] h
def aCons (f : En → Hea → Res Val) (g : En → Hea → Res (List Val)) : En → Hea → Res (List Val) := fun e h => (f e h).bind fun x h1 => (g e h1).bind fun xs h2 => .ok (x :: xs) h2
/-- *e in a display or a call -/
def itemsOf (h : Hea) : Val → Option (List Val)
  | .tup xs => some xs
  | .lst xs => some xs
  | .ref i => lstAt h i
  | _ => none
def aStar (f : En → Hea → Res Val) (g : En → Hea → Res (List Val)) : En → Hea → Res (List Val) := fun e h => (f e h).bind fun x h1 => match itemsOf h1 x with
  | some ys => (g e h1).bind fun xs h2 => .ok (ys ++ xs) h2
  | none => .stuck
section
variable {S : Sy} {W : WX} {σ : St} {H : Hp} {Q : VK}
theorem AftA.bind {ρ : Own} {r : Res (List Val)} {k : List Val → Hea → Res Val} {Q : VK} {W : XK} (a : Aft S ρ H (r.bind k) Q W) :
    AftA S ρ H r (fun v H1 => ∃ ρ1 d h1, Go S ρ H ρ1 H1 ∧ Rel S ρ1 h1 H1 ∧ Reps S ρ1 H1 d v ∧ Aft S ρ1 H1 (k d h1) Q W) W := by
  cases r with
  | ok d h => exact fun ρ1 v H1 s R r => ⟨ρ1, d, h, s, R, r, Aft.later (r := k d h) a s⟩
  | exc c d h => exact a
  | stuck => exact a
theorem AftA.mono {ρ : Own} {r : Res (List Val)} {Q Q' : List V → Hp → Prop} {W : XK} (a : AftA S ρ H r Q W) (h : ∀ v H', Q v H' → Q' v H') : AftA S ρ H r Q' W := by
  cases r with
  | ok d h' => exact fun ρ1 v H1 s R r => h _ _ (a ρ1 v H1 s R r)
  | exc c d h' => exact a
  | stuck => exact a
theorem AftA.later {ρ ρ1 : Own} {H1 : Hp} {r : Res (List Val)} {Q : List V → Hp → Prop} {W : XK} (a : AftA S ρ H r Q W) (s : Go S ρ H ρ1 H1) : AftA S ρ1 H1 r Q W := by
  cases r with
  | ok d h' => exact fun ρ2 v H2 s2 => a ρ2 v H2 (s.trans s2)
  | exc c d h' => exact fun ρ2 v H2 dx s2 => a ρ2 v H2 dx (s.trans s2)
  | stuck => exact a
theorem AftA.bind1 {ρ : Own} {r : Res Val} {k : Val → Hea → Res (List Val)} {Q : List V → Hp → Prop} {W : XK} (a : AftA S ρ H (r.bind k) Q W) :
    Aft S ρ H r (fun v H1 => ∃ ρ1 d h1, Go S ρ H ρ1 H1 ∧ Rel S ρ1 h1 H1 ∧ Rep S ρ1 H1 d v ∧ AftA S ρ1 H1 (k d h1) Q W) W := by
  cases r with
  | ok d h => exact fun ρ1 v H1 s R r => ⟨ρ1, d, h, s, R, r, AftA.later (r := k d h) a s⟩
  | exc c d h => exact a
  | stuck => exact a
theorem AftA.bind2 {ρ : Own} {r : Res (List Val)} {k : List Val → Hea → Res (List Val)} {Q : List V → Hp → Prop} {W : XK} (a : AftA S ρ H (r.bind k) Q W) :
    AftA S ρ H r (fun v H1 => ∃ ρ1 d h1, Go S ρ H ρ1 H1 ∧ Rel S ρ1 h1 H1 ∧ Reps S ρ1 H1 d v ∧ AftA S ρ1 H1 (k d h1) Q W) W := by
  cases r with
  | ok d h => exact fun ρ1 v H1 s R r => ⟨ρ1, d, h, s, R, r, AftA.later (r := k d h) a s⟩
  | exc c d h => exact a
  | stuck => exact a
end
section
variable {T : Tb} {X : Cx} {W : WX} {a : Expr} {es : List Expr} {f : En → Hea → Res Val} {g : En → Hea → Res (List Val)} {pos : Pos}
theorem sa_nil : SA T X W [] aNil := pa_nil.imp fun σ H Q q => by
  obtain ⟨ρ, e, h, R, E, a⟩ := q
  exact a ρ [] H .rfl R .nil
theorem sa_cons (ha : SE T X W a f) (hr : SA T X W es g) (hs : starEach (a :: es) X.env = (false, eval a X.env) :: starEach es X.env := by rfl) : SA T X W (a :: es) (aCons f g) := (pa_cons ha hr hs).imp fun σ H Q q => by
  obtain ⟨ρ, e, h, R, E, a⟩ := q
  refine ⟨ρ, e, h, R, E, (AftA.bind1 a).mono fun v H1 ⟨ρ1, d, h1, s, R1, r, a1⟩ => ⟨ρ1, e, h1, R1, E.go s, (AftA.bind2 a1).mono fun vs H2 ⟨ρ2, ds, h2, s2, R2, r2, a2⟩ => ?_⟩⟩
  exact a2 ρ2 (v :: vs) H2 .rfl R2 (.cons (r.go s2) r2)
theorem items_sq {S : Sy} {ρ : Own} {H : Hp} {h : Hea} {d : Val} {v : V} {ys : List Val} (R : Rel S ρ h H) (r : Rep S ρ H d v) (e : itemsOf h d = some ys) : ∃ p xs, v = .ref p ∧ (StT S.K H p xs ∨ SqL S.K H p xs) ∧ Reps S ρ H ys xs := by
  unfold itemsOf at e
  split at e
  · cases e
    obtain ⟨p, vs, rfl, s, q⟩ := r.tup_
    exact ⟨p, vs, rfl, .inl s, q⟩
  · cases e
    cases r with
    | lst f h1 h2 => exact ⟨_, _, rfl, .inr (.inl (.inl h1)), h2⟩
  · obtain ⟨p, rfl, ea⟩ := r.ref_
    obtain ⟨vs, s, q⟩ := R.lst e ea
    exact ⟨p, vs, rfl, .inr s, q⟩
  · cases e
end
def eTup (g : En → Hea → Res (List Val)) : En → Hea → Res Val := fun e h => (g e h).bind fun xs h1 => if xs.length ≤ 16777216 then .ok (.tup xs) h1 else .stuck
def lDisp (g : En → Hea → Res (List Val)) : En → Hea → Res (List Val) := fun e h => (g e h).bind fun xs h1 => if xs.length ≤ 16777216 then .ok xs h1 else .stuck
/-- a made list is kept -/
def eLst (g : En → Hea → Res (List Val)) : En → Hea → Res Val := fun e h => (g e h).bind fun xs h1 => .ok (.lst xs) h1
/-- .. to be changed -/
def eNew (g : En → Hea → Res (List Val)) : En → Hea → Res Val := fun e h => (g e h).bind fun xs h1 => .ok (.ref h1.length) (h1 ++ [.lst xs])
section
variable {S : Sy} {H : Hp}
theorem AftL.mono {ρ : Own} {r : Res (List Val)} {Q Q' : VK} {W : XK} (a : AftL S ρ H r Q W) (h : ∀ v H', Q v H' → Q' v H') : AftL S ρ H r Q' W := by
  cases r with
  | ok d h' => exact fun ρ1 p v H1 s R e n z r k => h _ _ (a ρ1 p v H1 s R e n z r k)
  | exc c d h' => exact a
  | stuck => exact a
theorem Go.none {ρ ρ1 ρ2 : Own} {H1 H2 : Hp} (s : Go S ρ H ρ1 H1) {p : Addr} (n : Off ρ2 p) (s2 : Go S ρ1 H1 ρ2 H2) (z : H1 p = Option.none) : H p = Option.none := by
  cases e : H p with
  | none => rfl
  | some o =>
    obtain ⟨⟨o', this, _⟩, _⟩ := s.fr p o e fun i w => n i (s2.sub _ _ (s.sub _ _ w))
    rw [z] at this; cases this
theorem Go.adopt {ρ ρ1 : Own} {H1 : Hp} (s : Go S ρ H ρ1 H1) {p : Addr} (z : H p = Option.none) : Go S ρ H (ρ1.add p) H1 := by
  refine ⟨s.sub.trans .app, s.kp, s.fr, fun i a h => ?_, s.hd⟩
  rcases add_some h with h | h
  · exact s.nw i a h
  · subst h
    exact .inr z
theorem AftL.later {ρ ρ1 : Own} {H1 : Hp} {r : Res (List Val)} {Q : VK} {W : XK} (a : AftL S ρ H r Q W) (s : Go S ρ H ρ1 H1) : AftL S ρ1 H1 r Q W := by
  cases r with
  | ok d h' => exact fun ρ2 p v H2 s2 R e n z r k => a ρ2 p v H2 (s.trans s2) R e n (s.none n.1 s2 z) r k
  | exc c d h' => exact fun ρ2 v H2 dx s2 => a ρ2 v H2 dx (s.trans s2)
  | stuck => exact a
/-- behind a made list: another expression goes on with it -/
theorem AftL.bind {ρ : Own} {r : Res (List Val)} {k : List Val → Hea → Res Val} {Q : VK} {W : XK} (a : Aft S ρ H (r.bind k) Q W) :
    AftL S ρ H r (fun v H1 => ∃ ρ1 ds h1 p vs, Go S ρ H ρ1 H1 ∧ Rel S ρ1 h1 H1 ∧ v = .ref p ∧ H1 p = some (.lst vs) ∧ Fz ρ1 p ∧ H p = none ∧ Reps S ρ1 H1 ds vs ∧ Rel S (ρ1.add p) (h1 ++ [.lst ds]) H1 ∧ Aft S ρ H (k ds h1) Q W) W := by
  cases r with
  | ok d h => exact fun ρ1 p v H1 s R e n z r k => ⟨ρ1, d, h, p, v, s, R, rfl, e, n, z, r, k, a⟩
  | exc c d h => exact a
  | stuck => exact a
theorem AftA.bindL {ρ : Own} {r : Res (List Val)} {k : List Val → Hea → Res (List Val)} {Q : VK} {W : XK} (a : AftL S ρ H (r.bind k) Q W) :
    AftA S ρ H r (fun v H1 => ∃ ρ1 d h1, Go S ρ H ρ1 H1 ∧ Rel S ρ1 h1 H1 ∧ Reps S ρ1 H1 d v ∧ AftL S ρ1 H1 (k d h1) Q W) W := by
  cases r with
  | ok d h => exact fun ρ1 v H1 s R r => ⟨ρ1, d, h, s, R, r, AftL.later (r := k d h) a s⟩
  | exc c d h => exact a
  | stuck => exact a
theorem AftL.bind1 {ρ : Own} {r : Res Val} {k : Val → Hea → Res (List Val)} {Q : VK} {W : XK} (a : AftL S ρ H (r.bind k) Q W) :
    Aft S ρ H r (fun v H1 => ∃ ρ1 d h1, Go S ρ H ρ1 H1 ∧ Rel S ρ1 h1 H1 ∧ Rep S ρ1 H1 d v ∧ AftL S ρ1 H1 (k d h1) Q W) W := by
  cases r with
  | ok d h => exact fun ρ1 v H1 s R r => ⟨ρ1, d, h, s, R, r, AftL.later (r := k d h) a s⟩
  | exc c d h => exact a
  | stuck => exact a
/-- a new list that is made now -/
theorem AftL.made {ρ : Own} {h : Hea} {xs : List Val} {vs : List V} {Q : VK} {W : XK} (a : AftL S ρ H (.ok xs h) Q W) (R : Rel S ρ h H) (r : Reps S ρ H xs vs) (p : Addr) (n : H p = none) : Q (.ref p) (upd H p (.lst vs)) :=
  a ρ p vs _ (.side n) (R.side n) upd_same (R.fz n) n (r.mono (.side n)) (R.new n (.lst upd_same (r.mono (.new n))))
end
section
variable {T : Tb} {X : Cx} {W : WX} {a : Expr} {es : List Expr} {f : En → Hea → Res Val} {g : En → Hea → Res (List Val)} {pos : Pos}
theorem se_tup {x1} (h : SA T X W es g) : SE T X W (.Tuple es x1 pos) (eTup g) := (pe_tupS h).imp fun σ H Q q => by
  obtain ⟨ρ, e, h, R, E, a⟩ := q
  refine ⟨ρ, e, h, R, E, (AftA.bind a).mono fun vs H1 ⟨ρ1, ds, h1, s, R1, r, a1⟩ => ?_⟩
  have l := r.length
  split at a1
  · exact ⟨by rw [sizeLine_eq]; omega, a1.tup R1 r⟩
  · exact a1.elim
theorem sl_lst (h : SA T X W es g) : SL T X W (.List es pos) (lDisp g) := (pe_lst h).imp fun σ H Q q => by
  obtain ⟨ρ, e, h, R, E, a⟩ := q
  refine ⟨ρ, e, h, R, E, (AftA.bindL a).mono fun vs H1 ⟨ρ1, ds, h1, s, R1, r, a1⟩ => ?_⟩
  have l := r.length
  split at a1
  · exact ⟨by rw [sizeLine_eq]; omega, fun p n => a1.made R1 r p n⟩
  · exact a1.elim
theorem se_new (h : SL T X W a g) : SE T X W a (eNew g) := h.imp fun σ H Q q => by
  obtain ⟨ρ, e, h, R, E, a⟩ := q
  refine ⟨ρ, e, h, R, E, (AftL.bind a).mono fun v H1 ⟨ρ1, ds, h1, p, vs, s, R1, ev, el, n, z, r, k, a1⟩ => ?_⟩
  subst ev
  exact a1 (ρ1.add p) (.ref p) H1 (s.adopt z) k (.ref (by rw [R1.len]; exact add_at))
theorem se_lst (h : SL T X W a g) : SE T X W a (eLst g) := h.imp fun σ H Q q => by
  obtain ⟨ρ, e, h, R, E, a⟩ := q
  refine ⟨ρ, e, h, R, E, (AftL.bind a).mono fun v H1 ⟨ρ1, ds, h1, p, vs, s, R1, ev, el, n, z, r, k, a1⟩ => ?_⟩
  subst ev
  exact a1 ρ1 (.ref p) H1 s R1 (.lst n el r)
end
end Lad
end
section
set_option maxRecDepth 100000
set_option maxHeartbeats 2000000
namespace Lad
open PySem PySem.Spec PyProof.Rows L2
/-- TyX, or a dict by nested tuples -/
inductive TyZ (P : Program) (w : World) (K : PySem.W.Frag) (H : Hp) : V → Value → Prop where
  | old {x : V} {t : Value} (h : TyX K H x t) : TyZ P w K H x t
  | dN {a : Addr} {ps : List (NestedKey × Addr × V)} (h : Rd H a (dnO P w a ps)) : TyZ P w K H (.ref a) (.type "dict")
section
variable {X : Cx} {pins : List (Addr × Obj)} {σ : L2.St} {H : Hp} {s : Shared}
theorem dn_obj {a : Addr} {ps : List (NestedKey × Addr × V)} (I : Inv X pins σ H s) (h : Rd H a (dnO X.prog X.w a ps)) : ps.length ≤ sizeLine ∧ (a == sysModules) = false ∧
    ∃ xs : List (NestedKey × Addr × Value), Paired (fun (p : NestedKey × Addr × V) (q : NestedKey × Addr × Value) => p.1 = q.1 ∧ p.2.1 = q.2.1 ∧ RelV p.2.2 q.2.2) ps xs ∧
      ∃ o es ep, s.heap.get? a = some o ∧ o.ExactDict ∧ o.data = .dict es ep ∧ es.toList = xs.map (entryOfKey (nestedKind X.prog X.w)) ∧ (xs.map (·.1)).Nodup := by
  have q := h.ok I.hok
  unfold dnO at q
  exact q.1
theorem kit_ofZ {x : V} {u t : Value} (I : Inv X pins σ H s) (rx : RelV x u) (ty : TyZ X.prog X.w X.K H x t) : ∃ P : Heap → Prop, PySem.W.KitX X.K u t P ∧ P s.heap ∧ u ≠ .builtin "__main__.__loader__#opaque" := by
  cases ty with
  | old k => exact kit_of I rx k
  | @dN a ps k =>
    obtain rfl : u = Value.ref a := rx
    obtain ⟨_, _, xs, _, o, es, ep, e1, e2, _⟩ := dn_obj I k
    exact ⟨_, PySem.W.kitx_dict, ⟨o, e1, e2.1⟩, fun z => by cases z⟩
/-- isinstance(x, c) -/
def rIsZ (P : Program) (w : World) (K : PySem.W.Frag) : List V → Hp → VK → Prop := fun xs H Q => ∃ (x c : V) (t u : Value) (b : Bool), xs = [x, c] ∧ ClsV c u ∧ TyZ P w K H x t ∧ PySem.W.kitOne K t u = some b ∧ Q (.bl b) H
/-- isinstance(x, (c1, ..)) -/
def rIsTZ (P : Program) (w : World) (K : PySem.W.Frag) : List V → Hp → VK → Prop := fun xs H Q => ∃ (x : V) (p : Addr) (cs : List V) (t : Value) (us : List Value) (b : Bool), xs = [x, .ref p] ∧ H p = some (.tup cs) ∧ Paired ClsV cs us ∧ TyZ P w K H x t ∧ PySem.W.kitAny K t us = some b ∧ Q (.bl b) H
theorem call_isZ : CallR X (.builtin "isinstance") (rIsZ X.prog X.w X.K) := by
  rintro pins s σ H xs us Q I r ⟨x, c, t, u, b, rfl, cl, tz, ek, fin⟩
  obtain ⟨v1, v2, rfl, ra, rb⟩ := vals2 r
  obtain rfl := cl.eq rb
  obtain ⟨P, kx, px, nx⟩ := kit_ofZ I ra tz
  exact PySem.W.kia_one kx I.kIn px ek nx fun tk => ⟨.bl b, H, I.tok tk, Eq.refl _, fin⟩
theorem call_isTZ : CallR X (.builtin "isinstance") (rIsTZ X.prog X.w X.K) := by
  rintro pins s σ H xs us Q I r ⟨x, p, cs, t, ws, b, rfl, ht, cl, tz, ek, fin⟩
  obtain ⟨v1, v2, rfl, ra, rb⟩ := vals2 r
  obtain rfl : v2 = Value.ref p := rb
  obtain ⟨P, kx, px, nx⟩ := kit_ofZ I ra tz
  obtain ⟨_, its, rv, ob, g1, g2, n, g3⟩ := (show ObjOk X.prog X.w H s.heap p (.tup cs) from I.hok p _ ht)
  obtain rfl := ClsV.all cl rv
  cases ob
  dsimp only at g2 g3
  subst g2 g3
  exact PySem.W.kia_tup kx I.kIn px g1 ek nx fun tk => ⟨.bl b, H, I.tok tk, Eq.refl _, fin⟩
end
end Lad
end
section
set_option maxRecDepth 100000
set_option maxHeartbeats 1000000
namespace Lad
open PySem L2
def rC (S : Sy) (g : Hea → List Val → Option Val) : List V → Hp → VK → Prop := fun vs H Q => ∃ ρ h ds, Rel S ρ h H ∧ Reps S ρ H ds vs ∧ Aft S ρ H (opt (g h ds) h) Q (fun _ _ _ => False)
/-- of one list or tuple, by its items -/
def rIt (S : Sy) (g : List Val → Option Val) : List V → Hp → VK → Prop := fun vs H Q => ∃ ρ h xs us p, Rel S ρ h H ∧ vs = [.ref p] ∧ (SqL S.K H p us ∨ StT S.K H p us) ∧ Reps S ρ H xs us ∧ Aft S ρ H (opt (g xs) h) Q (fun _ _ _ => False)
/-- of one list -/
def rIl (S : Sy) (g : List Val → Option Val) : List V → Hp → VK → Prop := fun vs H Q => ∃ ρ h xs us p, Rel S ρ h H ∧ vs = [.ref p] ∧ SqL S.K H p us ∧ Reps S ρ H xs us ∧ Aft S ρ H (opt (g xs) h) Q (fun _ _ _ => False)
def eCB (g : Hea → List Val → Option Val) (as : En → Hea → Res (List Val)) : En → Hea → Res Val := fun e h => (as e h).bind fun ds h1 => opt (g h1 ds) h1
/-- the argument is a value -/
def eIt (g : List Val → Option Val) (f : En → Hea → Res Val) : En → Hea → Res Val := fun e h => (f e h).bind fun d h1 => match itemsOf h1 d with
  | some xs => opt (g xs) h1
  | none => .stuck
def eIl (g : List Val → Option Val) (f : En → Hea → Res Val) : En → Hea → Res Val := fun e h => (f e h).bind fun d h1 => match lstOf h1 d with
  | some xs => opt (g xs) h1
  | none => .stuck
/-- the argument is a list made for it -/
def eItL (g : List Val → Option Val) (f : En → Hea → Res (List Val)) : En → Hea → Res Val := fun e h => (f e h).bind fun xs h1 => opt (g xs) h1
theorem CallR.imp {X : Cx} {f : Value} {r r' : List V → Hp → VK → Prop} (p : CallR X f r) (h : ∀ vs H Q, r' vs H Q → r vs H Q) : CallR X f r' := fun pins s σ H vs us Q I rx q => p pins s σ H vs us Q I rx (h vs H Q q)
section
variable {T : Tb} {X : Cx} {W : WX} {a : Expr} {es : List Expr} {f : En → Hea → Res Val} {g : En → Hea → Res (List Val)} {pos : Pos}
theorem cb_imp {r : Hea → List Val → Option Val} {σ : St} {H : Hp} {Q : VK} (q : tE (sy T X) W (eCB r g) σ H Q) : tCB (rC (sy T X) r) (tA (sy T X) W g) σ H Q := by
  obtain ⟨ρ, e, h, R, E, a⟩ := q
  exact ⟨ρ, e, h, R, E, (AftA.bind a).mono fun vs H1 ⟨ρ1, ds, h1, s, R1, r1, a1⟩ => ⟨ρ1, h1, ds, R1, r1, a1.noW⟩⟩
theorem it_imp {r : List Val → Option Val} {σ : St} {H : Hp} {Q : VK} (q : tE (sy T X) W (eIt r f) σ H Q) : tCB (rIt (sy T X) r) (tCons (tE (sy T X) W f) tNil) σ H Q := by
  obtain ⟨ρ, e, h, R, E, a⟩ := q
  refine ⟨ρ, e, h, R, E, a.bind.mono fun v H1 ⟨ρ1, d, h1, s, R1, r1, a1⟩ => ?_⟩
  split at a1
  · rename_i xs hx
    obtain ⟨p, us, rfl, sq, rr⟩ := items_sq R1 r1 hx
    exact ⟨ρ1, h1, xs, us, p, R1, rfl, sq.symm, rr, a1.noW⟩
  · exact a1.elim
theorem ilL_imp {r : List Val → Option Val} {σ : St} {H : Hp} {Q : VK} (q : tE (sy T X) W (eItL r g) σ H Q) : tCB (rIl (sy T X) r) (tCons (tL (sy T X) W g) tNil) σ H Q := by
  obtain ⟨ρ, e, h, R, E, a⟩ := q
  refine ⟨ρ, e, h, R, E, (AftL.bind a).mono fun v H1 ⟨ρ1, ds, h1, p, vs, s, R1, ev, el, n, z, r1, _, a1⟩ => ?_⟩
  subst ev
  exact ⟨ρ1, h1, ds, vs, p, R1, rfl, .inl (.inl el), r1, (a1.later s).noW⟩
end
def ints? : List Val → Option (List Int)
  | [] => some []
  | .int i :: xs => (ints? xs).map (i :: ·)
  | _ => none
def bls? : List Val → Option (List Bool)
  | [] => some []
  | .bl i :: xs => (bls? xs).map (i :: ·)
  | _ => none
theorem ints_eq : ∀ {xs : List Val} {ns : List Int}, ints? xs = some ns → xs = ns.map Val.int
  | [], ns, e => by cases e; rfl
  | .int i :: xs, ns, e => by
    simp only [ints?] at e
    cases q : ints? xs with
    | none => rw [q] at e; cases e
    | some ms => rw [q] at e; cases e; rw [ints_eq q]; rfl
  | .non :: _, _, e => by cases e
  | .bl _ :: _, _, e => by cases e
  | .str _ :: _, _, e => by cases e
  | .tup _ :: _, _, e => by cases e
  | .ref _ :: _, _, e => by cases e
  | .exn _ _ :: _, _, e => by cases e
  | .lst _ :: _, _, e => by cases e
  | .dic _ _ _ :: _, _, e => by cases e
  | .obj _ _ _ :: _, _, e => by cases e
theorem bls_eq : ∀ {xs : List Val} {ns : List Bool}, bls? xs = some ns → xs = ns.map Val.bl
  | [], ns, e => by cases e; rfl
  | .bl i :: xs, ns, e => by
    simp only [bls?] at e
    cases q : bls? xs with
    | none => rw [q] at e; cases e
    | some ms => rw [q] at e; cases e; rw [bls_eq q]; rfl
  | .non :: _, _, e => by cases e
  | .int _ :: _, _, e => by cases e
  | .str _ :: _, _, e => by cases e
  | .tup _ :: _, _, e => by cases e
  | .ref _ :: _, _, e => by cases e
  | .exn _ _ :: _, _, e => by cases e
  | .lst _ :: _, _, e => by cases e
  | .dic _ _ _ :: _, _, e => by cases e
  | .obj _ _ _ :: _, _, e => by cases e
theorem Reps.bls {S : Sy} {ρ : Own} {H : Hp} : ∀ {ns : List Bool} {vs : List V}, Reps S ρ H (ns.map Val.bl) vs → vs = ns.map V.bl
  | [], _, .nil => rfl
  | n :: ns, _, .cons r t => by
    cases r
    rw [Reps.bls t]
    rfl
def iMax : List Int → Option Int
  | [] => none
  | n :: ns => some (ns.foldl (fun a b => if b > a then b else a) n)
theorem foldMax : ∀ (ns : List Int) (n : Int), (ns.foldl (fun a b => if b > a then b else a) n = n ∨ ns.foldl (fun a b => if b > a then b else a) n ∈ ns) ∧ n ≤ ns.foldl (fun a b => if b > a then b else a) n ∧ ∀ y ∈ ns, y ≤ ns.foldl (fun a b => if b > a then b else a) n
  | [], n => ⟨.inl rfl, Int.le_refl _, fun _ h => nomatch h⟩
  | m :: ns, n => by
    obtain ⟨h1, h2, h3⟩ := foldMax ns (if m > n then m else n)
    simp only [List.foldl_cons]
    by_cases c : m > n
    · rw [if_pos c] at h1 h2 h3 ⊢
      refine ⟨.inr ?_, by omega, fun y hy => ?_⟩
      · rcases h1 with e | e
        · rw [e]; exact List.mem_cons_self
        · exact List.mem_cons_of_mem _ e
      · rcases List.mem_cons.mp hy with rfl | hy
        · exact h2
        · exact h3 y hy
    · rw [if_neg c] at h1 h2 h3 ⊢
      refine ⟨?_, h2, fun y hy => ?_⟩
      · rcases h1 with e | e
        · exact .inl e
        · exact .inr (List.mem_cons_of_mem _ e)
      · rcases List.mem_cons.mp hy with rfl | hy
        · omega
        · exact h3 y hy
theorem iMax_ok {ns : List Int} {m : Int} (e : iMax ns = some m) : m ∈ ns ∧ ∀ y ∈ ns, y ≤ m := by
  cases ns with
  | nil => cases e
  | cons n ns =>
    cases e
    obtain ⟨h1, h2, h3⟩ := foldMax ns n
    refine ⟨?_, fun y hy => ?_⟩
    · rcases h1 with e | e
      · rw [e]; exact List.mem_cons_self
      · exact List.mem_cons_of_mem _ e
    · rcases List.mem_cons.mp hy with rfl | hy
      · exact h2
      · exact h3 y hy
def gLen (xs : List Val) : Option Val := some (.int xs.length)
def gAll (xs : List Val) : Option Val := (bls? xs).map fun bs => .bl (bs.all id)
def gMax (xs : List Val) : Option Val := ((ints? xs).bind iMax).map .int
def gTuple (xs : List Val) : Option Val := some (.tup xs)
def gAbs : Hea → List Val → Option Val
  | _, [.int i] => some (.int (if i < 0 then -i else i))
  | _, _ => none
def gMax2 : Hea → List Val → Option Val
  | _, [.int i, .int j] => some (.int (if j > i then j else i))
  | _, _ => none
def gMin2 : Hea → List Val → Option Val
  | _, [.int i, .int j] => some (.int (if j < i then j else i))
  | _, _ => none
def gInt : Hea → List Val → Option Val
  | _, [.int i] => some (.int i)
  | _, [.bl k] => some (.int (if k then 1 else 0))
  | _, _ => none
section
variable {T : Tb} {X : Cx}
theorem g_len : CallR X (.builtin "len") (rIt (sy T X) gLen) := CallR.imp call_len_seq fun vs H Q h => by
  obtain ⟨ρ, h, xs, us, p, R, rfl, sq, r, a⟩ := h
  refine ⟨p, us, rfl, sq.imp id StT.sq, ?_⟩
  rw [← r.length]
  exact a.same R (.int _)
theorem g_all (hc : X.calm = true) : CallR X (.builtin "all") (rIl (sy T X) gAll) := CallR.imp (cr_all hc) fun vs H Q h => by
  obtain ⟨ρ, h, xs, us, p, R, rfl, sq, r, a⟩ := h
  unfold gAll at a
  cases e : bls? xs with
  | none => rw [e] at a; exact a.elim
  | some bs =>
    rw [e] at a
    obtain rfl := bls_eq e
    obtain rfl := r.bls
    exact ⟨p, bs, rfl, sq, Aft.same (d := .bl _) a R (.bl _)⟩
theorem g_max (hc : X.calm = true) : CallR X (.builtin "max") (rIl (sy T X) gMax) := CallR.imp (cr_max hc) fun vs H Q h => by
  obtain ⟨ρ, h, xs, us, p, R, rfl, sq, r, a⟩ := h
  unfold gMax at a
  cases e : ints? xs with
  | none => rw [e] at a; exact a.elim
  | some bs =>
    rw [e] at a
    cases e2 : iMax bs with
    | none => simp [e2, opt, Aft] at a
    | some m =>
      simp only [Option.bind_some, e2, Option.map_some] at a
      obtain rfl := ints_eq e
      obtain rfl := r.ints
      obtain ⟨h1, h2⟩ := iMax_ok e2
      refine ⟨p, bs, rfl, sq, List.length_pos_of_mem h1, fun m' h1' h2' => ?_⟩
      have : m' = m := Int.le_antisymm (h2 _ h1') (h2' _ h1)
      subst this
      exact Aft.same (d := .int _) a R (.int _)
theorem g_tuple : CallR X (.type "tuple") (rIt (sy T X) gTuple) := CallR.imp call_tupleS fun vs H Q h => by
  obtain ⟨ρ, h, xs, us, p, R, rfl, sq, r, a⟩ := h
  refine ⟨p, us, rfl, ?_⟩
  rcases sq with sq | sq
  · exact .inl ⟨sq, Aft.tup a R r⟩
  · exact .inr ⟨sq.sq, Aft.same a R (.tup sq r)⟩
theorem g_abs : CallR X (.builtin "abs") (rC (sy T X) gAbs) := CallR.imp call_abs fun vs H Q h => by
  obtain ⟨ρ, h, ds, R, r, a⟩ := h
  unfold gAbs at a
  split at a
  · obtain rfl := Reps.ints (ns := [_]) r
    exact ⟨_, rfl, Aft.same (d := .int _) a R (.int _)⟩
  · exact a.elim
theorem g_max2 (hc : X.calm = true) : CallR X (.builtin "max") (rC (sy T X) gMax2) := CallR.imp (call_max2 hc) fun vs H Q h => by
  obtain ⟨ρ, h, ds, R, r, a⟩ := h
  unfold gMax2 at a
  split at a
  · obtain rfl := Reps.ints (ns := [_, _]) r
    exact ⟨_, _, rfl, Aft.same (d := .int _) a R (.int _)⟩
  · exact a.elim
theorem g_int : CallR X (.type "int") (rC (sy T X) gInt) := CallR.imp call_int1 fun vs H Q h => by
  obtain ⟨ρ, h, ds, R, r, a⟩ := h
  unfold gInt at a
  split at a
  · obtain rfl := Reps.ints (ns := [_]) r
    exact .inl ⟨_, rfl, Aft.same (d := .int _) a R (.int _)⟩
  · obtain rfl := Reps.bls (ns := [_]) r
    exact .inr ⟨_, rfl, Aft.same (d := .int _) a R (.int _)⟩
  · exact a.elim
end
inductive BT where
  | int | bool | str | tuple | list | dict
def BT.nm : BT → String
  | .int => "int" | .bool => "bool" | .str => "str" | .tuple => "tuple" | .list => "list" | .dict => "dict"
inductive TK where
  | non | bool | int | str | tuple | list | dict
def TK.nm : TK → String
  | .non => "NoneType" | .bool => "bool" | .int => "int" | .str => "str" | .tuple => "tuple" | .list => "list" | .dict => "dict"
def isTB : TK → BT → Bool
  | .bool, .bool | .bool, .int | .int, .int | .str, .str | .tuple, .tuple | .list, .list | .dict, .dict => true
  | _, _ => false
theorem kit_tb (k : TK) (b : BT) : kitB k.nm b.nm = some (isTB k b) := by
  cases k <;> cases b <;> decide +kernel
def tyK (h : Hea) : Val → Option TK
  | .non => some .non
  | .bl _ => some .bool
  | .int _ => some .int
  | .str _ => some .str
  | .tup _ => some .tuple
  | .lst _ => some .list
  | .dic _ _ _ => some .dict
  | .obj _ _ _ => none
  | .ref i => match h[i]? with
    | some (.lst _) => some .list
    | some (.fro _) => some .list
    | some (.dcK _) => some .dict
    | some (.dcT _) => some .dict
    | some (.dcL _) => some .dict
    | some (.dcM _) => some .dict
    | _ => none
  | .exn _ _ => none
theorem tyK_ok {S : Sy} {ρ : Own} {H : Hp} {h : Hea} {d : Val} {v : V} {k : TK} (R : Rel S ρ h H) (r : Rep S ρ H d v) (e : tyK h d = some k) : TyZ S.P S.w S.K H v (.type k.nm) := by
  cases r with
  | non => cases e; exact .old <| .base .non
  | bl b => cases e; exact .old <| .base (.bl b)
  | int b => cases e; exact .old <| .base (.int b)
  | str b => cases e; exact .old <| .base (.str b)
  | tup s q =>
    cases e
    rcases s with ⟨o, s, _⟩ | ⟨o, its, n, s, c, _⟩
    · exact .old <| .fTuple s
    · exact .old <| .kTuple s c
  | lst f h1 h2 => cases e; exact .old <| .base (.lst h1)
  | dicK f h1 _ _ _ => cases e; exact .old (by rcases h1 with h | ⟨o, h⟩; exact .base (.dK h); exact .fDict h)
  | dicT f h1 => cases e; exact .dN h1
  | obj => cases e
  | ref ea =>
    unfold tyK at e
    dsimp only at e
    split at e
    · rename_i xs hx
      cases e
      have o := R.ob _ _ _ hx ea
      cases o with
      | lst h1 h2 => exact .old <| .base (.lst h1)
    · rename_i xs hx
      cases e
      have o := R.ob _ _ _ hx ea
      cases o with
      | fro h1 => exact .old <| .base (.frz h1)
    · rename_i xs hx
      cases e
      have o := R.ob _ _ _ hx ea
      cases o with
      | dcK h1 h2 => exact .old <| .base (.dK h1)
    · rename_i xs hx
      cases e
      have o := R.ob _ _ _ hx ea
      cases o with
      | dcT h1 h2 => exact .dN (.inl h1)
    · rename_i xs hx
      cases e
      have o := R.ob _ _ _ hx ea
      cases o with
      | dcL h1 h2 => exact .old <| .fDict h1
    · rename_i xs hx
      cases e
      have o := R.ob _ _ _ hx ea
      cases o with
      | dcM h1 h2 => exact .dN (.inr ⟨_, h1⟩)
    · cases e
  | exn h1 h2 r => cases e
def oIsi (ts : List BT) (h : Hea) (d : Val) : Option Val := (tyK h d).map fun k => .bl (ts.any (isTB k))
section
variable {T : Tb} {X : Cx} {W : WX} {a : Expr} {f : En → Hea → Res Val} {pos p p1 p2 p3 : Pos}
theorem se_isi {b : BT} {x : Str} (hg : Gl X "isinstance") (hm : X.mg "isinstance" = none) (ha : SE T X W a f) (hb : PE X (.Name x p1) (tC (.ty b.nm))) (hs : starEach (a :: [.Name x p1]) X.env = (false, eval a X.env) :: starEach [.Name x p1] X.env := by rfl) :
    SE T X W (.Call (.Name "isinstance" p) [a, .Name x p1] [] pos) (eUn (oIsi [b]) f) := by
  refine PE.imp (pe_callB call_isZ hg hm (by decide +kernel) (pa_cons ha (pa_cons hb pa_nil) hs) (he := hs)) fun σ H Q q => ?_
  obtain ⟨ρ, e, h, R, E, a⟩ := tE.bind (f := f) (g := fun e x h1 => opt (oIsi [b] h1 x) h1) q
  refine ⟨ρ, e, h, R, E, a.mono fun v H1 ⟨ρ1, e1, d1, h1, b1, a1⟩ => ?_⟩
  obtain ⟨R1, E1, r1⟩ := b1
  show rIsZ X.prog X.w X.K [v, .ty b.nm] H1 Q
  unfold oIsi at a1
  cases hk : tyK h1 d1 with
  | none => rw [hk] at a1; exact a1.elim
  | some k =>
    rw [hk] at a1
    refine ⟨v, _, _, _, isTB k b, rfl, .ty _, tyK_ok R1 r1 hk, kit_ty (kit_tb k b), ?_⟩
    have q := Aft.same (d := .bl _) a1 R1 (.bl _)
    simpa using q
theorem kitAny_tb {K : PySem.W.Frag} (k : TK) : ∀ bs : List BT, PySem.W.kitAny K (.type k.nm) (bs.map fun b => Value.type b.nm) = some (bs.any (isTB k))
  | [] => rfl
  | b :: bs => by
    have h := kit_ty (K := K) (kit_tb k b)
    simp only [List.map_cons, PySem.W.kitAny, h, List.any_cons]
    cases isTB k b with
    | true => rfl
    | false => simpa using kitAny_tb k bs
/-- isinstance(x, (A, B)) -/
theorem se_isi2 {b c : BT} {x y : Str} {x1} (hg : Gl X "isinstance") (hm : X.mg "isinstance" = none) (ha : SE T X W a f) (hb : PE X (.Name x p1) (tC (.ty b.nm))) (hc : PE X (.Name y p2) (tC (.ty c.nm)))
    (hs : starEach (a :: [.Tuple [.Name x p1, .Name y p2] x1 p3]) X.env = (false, eval a X.env) :: starEach [.Tuple [.Name x p1, .Name y p2] x1 p3] X.env := by rfl) :
    SE T X W (.Call (.Name "isinstance" p) [a, .Tuple [.Name x p1, .Name y p2] x1 p3] [] pos) (eUn (oIsi [b, c]) f) := by
  refine PE.imp (pe_callB call_isTZ hg hm (by decide +kernel) (pa_cons ha (pa_cons (pe_tup (pa_cons hb (pa_cons hc pa_nil))) pa_nil) hs) (he := hs)) fun σ H Q q => ?_
  obtain ⟨ρ, e, h, R, E, a⟩ := tE.bind (f := f) (g := fun e x h1 => opt (oIsi [b, c] h1 x) h1) q
  refine ⟨ρ, e, h, R, E, a.mono fun v H1 ⟨ρ1, e1, d1, h1, b1, a1⟩ => ?_⟩
  obtain ⟨R1, E1, r1⟩ := b1
  refine ⟨by rw [sizeLine_eq]; exact (by decide : 2 ≤ 16777216), fun tp n => ?_⟩
  show rIsTZ X.prog X.w X.K [v, .ref tp] _ Q
  unfold oIsi at a1
  cases hk : tyK h1 d1 with
  | none => rw [hk] at a1; exact a1.elim
  | some k =>
    rw [hk] at a1
    have kp : Mv (sy T X) ρ1 H1 ρ1 (upd H1 tp (.tup [.ty b.nm, .ty c.nm])) := .side n
    refine ⟨v, tp, [.ty b.nm, .ty c.nm], _, [b, c].map fun b => Value.type b.nm, [b, c].any (isTB k), rfl, upd_same, .cons (.ty _) (.cons (.ty _) .nil), tyK_ok (R1.side n) (r1.mono kp) hk, kitAny_tb k _, ?_⟩
    exact a1 ρ1 _ _ (.side n) (R1.side n) (.bl _)
end
def oIx (h : Hea) (a b : Val) : Option Val := match b with
  | .int i => match itemsOf h a with
    | some xs => atI xs i
    | none => match a with
      | .str z => if z.length ≤ 16777216 then (atI z.cps.toList i).map fun c => .str ⟨#[c]⟩ else none
      | _ => none
  | _ => none
theorem Reps.atI {S : Sy} {ρ : Own} {H : Hp} {xs : List Val} {vs : List V} {i : Int} {d : Val} (r : Reps S ρ H xs vs) (e : atI xs i = some d) : ∃ v, L2.atI vs i = some v ∧ Rep S ρ H d v := by
  unfold L2.atI at e ⊢
  rw [← r.length]
  cases q : ixN xs.length i with
  | none => rw [q] at e; cases e
  | some j =>
    rw [q] at e
    exact r.get e
section
variable {T : Tb} {X : Cx} {W : WX} {a b : Expr} {f1 f2 : En → Hea → Res Val} {pos p p1 p2 p3 : Pos}
theorem IxR.imp {r r' : R2} (p : IxR X r) (h : ∀ x y H Q, r' x y H Q → r x y H Q) : IxR X r' := fun value slice pins s σ H x y v u Q I rx ry q e => p value slice pins s σ H x y v u Q I rx ry (h x y H Q q) e
theorem o_ix : IxR X (rB (sy T X) oIx) := IxR.imp (IxR.or ix_list (IxR.or ix_tup ix_str)) fun x y H Q h => by
  obtain ⟨ρ, h, d1, d2, R, r1, r2, a⟩ := h
  cases d2 with
  | int i =>
    obtain rfl := r2.int_
    simp only [oIx] at a
    cases hx : itemsOf h d1 with
    | some xs =>
      rw [hx] at a
      obtain ⟨p, us, rfl, sq, rr⟩ := items_sq R r1 hx
      cases e : L2.atI xs i with
      | none => simp only [e] at a; exact a.elim
      | some d =>
        simp only [e] at a
        obtain ⟨v, e1, r⟩ := rr.atI e
        rcases sq with sq | sq
        · exact .inr (.inl ⟨p, us, i, v, rfl, rfl, sq.sq, e1, Aft.same (d := d) a R r⟩)
        · exact .inl ⟨p, us, i, v, rfl, rfl, sq, e1, Aft.same (d := d) a R r⟩
    | none =>
      rw [hx] at a
      cases d1 with
      | str z =>
        obtain rfl := r1.str_
        simp only at a
        split at a
        · rename_i hz
          cases e : L2.atI z.cps.toList i with
          | none => rw [e] at a; exact a.elim
          | some c =>
            rw [e] at a
            exact .inr (.inr ⟨z, i, c, rfl, rfl, by rw [sizeLine_eq]; exact hz, e, Aft.same (d := .str _) a R (.str _)⟩)
        · exact a.elim
      | _ => exact a.elim
  | _ => exact a.elim
theorem se_ix (ha : SE T X W a f1) (hb : SE T X W b f2) (hs : PlainIx b := by intro _ _; rfl) : SE T X W (.Subscript a b pos) (eBin oIx f1 f2) := (pe_ix o_ix ha hb hs).imp fun σ H Q q => bin_imp q
end
end Lad
end
section
set_option maxRecDepth 100000
set_option maxHeartbeats 1000000
namespace Lad
open PySem L2
abbrev SSt (T : Tb) (X : Cx) (W : WX) (s : Stmt) (f : En → Hea → SRes) : Prop := PS X s (tS (sy T X) W f)
abbrev SSs (T : Tb) (X : Cx) (W : WX) (s : List Stmt) (f : En → Hea → SRes) : Prop := PSs X s (tS (sy T X) W f)
def ofR {α : Type} (r : Res α) (e : En) (k : α → Hea → SRes) : SRes := match r with
  | .ok a h => k a h
  | .exc c d h => .exc c d e h
  | .stuck => .stuck
section
variable {S : Sy} {W : WX} {H : Hp} {D : Ends} {ρ : Own} {σ : St} {e : En}
theorem AftS.ofR {r : Res Val} {k : Val → Hea → SRes} (a : AftS S ρ H (ofR r e k) D W) (E : ER S ρ H e σ) :
    Aft S ρ H r (fun v H1 => ∃ ρ1 d h1, Go S ρ H ρ1 H1 ∧ Rel S ρ1 h1 H1 ∧ Rep S ρ1 H1 d v ∧ ER S ρ1 H1 e σ ∧ AftS S ρ1 H1 (k d h1) D W) (fun c d H' => W c d σ H') := by
  cases r with
  | ok d h => exact fun ρ1 v H1 s R r => ⟨ρ1, d, h, s, R, r, E.go s, AftS.later (r := k d h) a s⟩
  | exc c d h => exact fun ρ1 v H1 dx s R r x => a ρ1 v σ H1 dx s R r (E.go s) x
  | stuck => exact a
theorem AftS.ofA {r : Res (List Val)} {k : List Val → Hea → SRes} (a : AftS S ρ H (Lad.ofR r e k) D W) (E : ER S ρ H e σ) :
    AftA S ρ H r (fun v H1 => ∃ ρ1 d h1, Go S ρ H ρ1 H1 ∧ Rel S ρ1 h1 H1 ∧ Reps S ρ1 H1 d v ∧ ER S ρ1 H1 e σ ∧ AftS S ρ1 H1 (k d h1) D W) (fun c d H' => W c d σ H') := by
  cases r with
  | ok d h => exact fun ρ1 v H1 s R r => ⟨ρ1, d, h, s, R, r, E.go s, AftS.later (r := k d h) a s⟩
  | exc c d h => exact fun ρ1 v H1 dx s R r x => a ρ1 v σ H1 dx s R r (E.go s) x
  | stuck => exact a
end
def sNil : En → Hea → SRes := fun e h => .nx e h
def sSeq (f g : En → Hea → SRes) : En → Hea → SRes := fun e h => match f e h with
  | .nx e1 h1 => g e1 h1
  | r => r
def sSet (i : Nat) (f : En → Hea → Res Val) : En → Hea → SRes := fun e h => ofR (f e h) e fun d h1 => .nx (e.set i (some d)) h1
def sRet (f : En → Hea → Res Val) : En → Hea → SRes := fun e h => ofR (f e h) e fun d h1 => .rt d h1
def sRetN : En → Hea → SRes := fun _ h => .rt .non h
def sEx (f : En → Hea → Res Val) : En → Hea → SRes := fun e h => ofR (f e h) e fun _ h1 => .nx e h1
def sIf (f : En → Hea → Res Val) (s1 s2 : En → Hea → SRes) : En → Hea → SRes := fun e h => ofR (f e h) e fun d h1 => match d with
  | .bl true => s1 e h1
  | .bl false => s2 e h1
  | _ => .stuck
/-- targets -/
def gN (i : Nat) : Val → En → Option En := fun v e => some (e.set i (some v))
def setAll : List Nat → List Val → En → Option En
  | [], [], e => some e
  | i :: is, v :: vs, e => setAll is vs (e.set i (some v))
  | _, _, _ => none
def gT (is : List Nat) : Val → En → Option En := fun v e => match v with
  | .tup xs => setAll is xs e
  | _ => none
def sAsg (g : Val → En → Option En) (f : En → Hea → Res Val) : En → Hea → SRes := fun e h => ofR (f e h) e fun d h1 => match g d e with
  | some e1 => .nx e1 h1
  | none => .stuck
/-- a, b, .. = x, y, ..: a display -/
def sPar (is : List Nat) (f : En → Hea → Res (List Val)) : En → Hea → SRes := fun e h => ofR (f e h) e fun ds h1 => match setAll is ds e with
  | some e1 => .nx e1 h1
  | none => .stuck
/-- targets by HandS's readings -/
def GOk (S : Sy) (vs : List Nat) (g : TG) (b : Val → En → Option En) : Prop :=
  ∀ (ρ : Own) (H : Hp) (h : Hea) (e : En) (σ : St) (d : Val) (v : V) (e' : En) (Q : St → Hp → Prop), Rel S ρ h H → ER S ρ H e σ → Rep S ρ H d v → b d e = some e' → (∀ σ', ER S ρ H e' σ' → wipe σ' vs = wipe σ vs → Q σ' H) → g v σ H Q
theorem wipe_set {σ : St} {i : Nat} {o : Option V} : ∀ {vs : List Nat}, i ∈ vs → wipe (σ.set i o) vs = wipe σ vs
  | v :: vs, h => by
    unfold wipe
    by_cases hm : i ∈ vs
    · rw [wipe_set hm]
    · have e : i = v := by
        rcases List.mem_cons.mp h with z | z
        · exact z
        · exact absurd z hm
      subst e
      have key : ∀ ws : List Nat, i ∉ ws → (wipe (σ.set i o) ws).set i none = (wipe σ ws).set i none := by
        intro ws
        induction ws with
        | nil => intro _; show (σ.set i o).set i none = σ.set i none; rw [List.set_set]
        | cons w ws ih =>
          intro hw
          have h1 : i ≠ w := fun z => hw (by rw [z]; exact List.mem_cons_self)
          have h2 : i ∉ ws := fun z => hw (List.mem_cons_of_mem _ z)
          show ((wipe (σ.set i o) ws).set w none).set i none = ((wipe σ ws).set w none).set i none
          rw [List.set_comm _ _ (Ne.symm h1), ih h2, List.set_comm _ _ h1]
      exact key vs hm
theorem gok_name {S : Sy} {i : Nat} {vs : List Nat} (hi : i ∈ vs) : GOk S vs (gName i) (gN i) := fun ρ H h e σ d v e' Q R E r b q => by
  cases b
  exact q _ (E.set r i) (wipe_set hi)
def gsNames : List Nat → TGs
  | [] => gNil
  | i :: is => gCons (gName i) (gsNames is)
theorem gs_names {S : Sy} {ρ : Own} {H : Hp} {vs : List Nat} : ∀ (is : List Nat) (e : En) (σ : St) (ds : List Val) (us : List V) (e' : En) (Q : St → Hp → Prop), (∀ i ∈ is, i ∈ vs) → ER S ρ H e σ → Reps S ρ H ds us → setAll is ds e = some e' → (∀ σ', ER S ρ H e' σ' → wipe σ' vs = wipe σ vs → Q σ' H) → gsNames is us σ H Q
  | [], e, σ, [], [], e', Q, _, E, .nil, b, q => by cases b; exact ⟨rfl, q _ E rfl⟩
  | [], e, σ, d :: ds, u :: us, e', Q, _, E, .cons _ _, b, q => by cases b
  | i :: is, e, σ, [], [], e', Q, _, E, .nil, b, q => by cases b
  | i :: is, e, σ, d :: ds, u :: us, e', Q, hv, E, .cons r t, b, q => by
    refine ⟨u, us, rfl, ?_⟩
    refine gs_names is _ _ ds us e' Q (fun j hj => hv j (List.mem_cons_of_mem _ hj)) (E.set r i) t b fun σ' E' w => q σ' E' ?_
    rw [w, wipe_set (hv i List.mem_cons_self)]
theorem setAll_len : ∀ {is : List Nat} {ds : List Val} {e e' : En}, setAll is ds e = some e' → ds.length = is.length
  | [], [], _, _, _ => rfl
  | _ :: is, _ :: ds, _, _, h => congrArg (· + 1) (setAll_len (is := is) h)
  | [], _ :: _, _, _, h => by cases h
  | _ :: _, [], _, _, h => by cases h
theorem gok_tup {S : Sy} {is vs : List Nat} (hi : ∀ i ∈ is, i ∈ vs) : GOk S vs (gTup S.K is.length (gsNames is)) (gT is) := fun ρ H h e σ d v e' Q R E r b q => by
  unfold gT at b
  split at b
  · obtain ⟨a, us, rfl, sq, rr⟩ := r.tup_
    refine ⟨a, us, rfl, sq.sq, ?_, gs_names is e σ _ us e' Q hi E rr b q⟩
    rw [← rr.length]
    exact setAll_len b
  · cases b
section
variable {T : Tb} {X : Cx} {W : WX} {a b c : Expr} {f : En → Hea → Res Val} {s : Stmt} {ss s1 s2 : List Stmt} {g g1 g2 : En → Hea → SRes} {pos : Pos}
theorem ss_nil : SSs T X W [] sNil := pss_nil.imp fun D σ H q => by
  obtain ⟨ρ, e, h, R, E, a⟩ := q
  exact a ρ σ H .rfl R E
theorem ss_one (h : SSt T X W s g) : SSs T X W [s] g := pss_one h
theorem ss_cons (h1 : SSt T X W s g1) (h2 : SSs T X W ss g2) : SSs T X W (s :: ss) (sSeq g1 g2) := (pss_cons h1 h2).imp fun D σ H q => by
  obtain ⟨ρ, e, h, R, E, a⟩ := q
  refine ⟨ρ, e, h, R, E, ?_⟩
  unfold sSeq at a
  revert a
  cases g1 e h with
  | nx e1 h1 => exact fun a ρ1 σ1 H1 s R1 E1 => ⟨ρ1, e1, h1, R1, E1, AftS.later (r := g2 e1 h1) a s⟩
  | rt v h1 => exact id
  | bk e1 h1 => exact id
  | ct e1 h1 => exact id
  | exc c d e1 h1 => exact id
  | stuck => exact id
theorem st_set {i : Nat} {x : Str} {pos' : Pos} (hN : X.N.Nodup) (hi : X.N[i]? = some x) (hx : Loc X.env.scope x) (ha : SE T X W a f) (hs : swapsWith a (some (.Name x pos')) pos.line X.env = pure false := by rfl)
    (hf : X.fn x = true ∨ X.env.scope.names.lookup x = some .local := by first | exact .inl rfl | exact .inr rfl) : SSt T X W (.Assign [.Name x pos'] a pos) (sSet i f) := (ps_set hN hi hx ha hs hf).imp fun D σ H q => by
  obtain ⟨ρ, e, h, R, E, a⟩ := q
  exact ⟨ρ, e, h, R, E, (a.ofR E).mono fun v H1 ⟨ρ1, d, h1, s, R1, r, E1, a1⟩ => a1 ρ1 _ H1 .rfl R1 (E1.set r i)⟩
theorem st_ret (ha : SE T X W a f) : SSt T X W (.Return (some a) pos) (sRet f) := (ps_ret ha).imp fun D σ H q => by
  obtain ⟨ρ, e, h, R, E, a⟩ := q
  exact ⟨ρ, e, h, R, E, (a.ofR E).mono fun v H1 ⟨ρ1, d, h1, s, R1, r, E1, a1⟩ => a1 ρ1 _ H1 .rfl R1 r⟩
theorem st_ex (ha : SE T X W a f) (hs : swapsWith a none pos.line X.env = pure false := by rfl) : SSt T X W (.Expr a pos) (sEx f) := (ps_expr ha hs).imp fun D σ H q => by
  obtain ⟨ρ, e, h, R, E, a⟩ := q
  exact ⟨ρ, e, h, R, E, (a.ofR E).mono fun v H1 ⟨ρ1, d, h1, s, R1, r, E1, a1⟩ => a1 ρ1 _ H1 .rfl R1 E1⟩
theorem st_if (hc : ST T X W c f) (h1 : SSs T X W s1 g1) (h2 : SSs T X W s2 g2) : SSt T X W (.If c s1 s2 pos) (sIf f g1 g2) := (ps_if hc h1 h2).imp fun D σ H q => by
  obtain ⟨ρ, e, h, R, E, a⟩ := q
  refine ⟨ρ, e, h, R, E, (a.ofR E).mono fun v H1 ⟨ρ1, d, h1, s, R1, r, E1, a1⟩ => ?_⟩
  split at a1
  · obtain rfl := r.bl_
    refine ⟨true, rfl, ?_⟩
    refine itT rfl ?_
    exact ⟨ρ1, e, h1, R1, E1, a1⟩
  · obtain rfl := r.bl_
    refine ⟨false, rfl, ?_⟩
    refine itF rfl ?_
    exact ⟨ρ1, e, h1, R1, E1, a1⟩
  · exact a1.elim
theorem st_asg {tg : Expr} {g : TG} {b : Val → En → Option En} {vs : List Nat} (hg : PG X tg g) (ok : GOk (sy T X) vs g b) (ha : SE T X W a f) (hs : swapsWithSole [tg] a pos.line X.env = pure false := by rfl) (hw : swappedStores [tg] a X.env = pure none := by rfl)
    (h1 : (assignEach [tg] X.env).map (·.2) = [assign tg X.env] := by rfl) : SSt T X W (.Assign [tg] a pos) (sAsg b f) := (ps_asg ha hg hs hw h1).imp fun D σ H q => by
  obtain ⟨ρ, e, h, R, E, a⟩ := q
  refine ⟨ρ, e, h, R, E, (a.ofR E).mono fun v H1 ⟨ρ1, d, h1, s, R1, r, E1, a1⟩ => ?_⟩
  split at a1
  · rename_i e1 he
    exact ok ρ1 H1 h1 e σ d v e1 D.nx R1 E1 r he fun σ' E' _ => a1 ρ1 _ H1 .rfl R1 E'
  · exact a1.elim
theorem st_par2 {i j : Nat} {x y : Str} {g : En → Hea → Res (List Val)} {px py pt : Pos} {kt k2 pt2} (hc : X.calm = true) (hN : X.N.Nodup) (hi : X.N[i]? = some x) (hj : X.N[j]? = some y) (hij : i ≠ j)
    (hx : X.env.scope.names.lookup x = some .local) (hy : X.env.scope.names.lookup y = some .local) (ha : SA T X W [a, b] g)
    (hw : swappedStores [.Tuple [.Name x px, .Name y py] kt pt] (.Tuple [a, b] k2 pt2) X.env = pure (some [x, y]))
    (hs : swapsWithSole [.Tuple [.Name x px, .Name y py] kt pt] (.Tuple [a, b] k2 pt2) pos.line X.env = pure false := by rfl) :
    SSt T X W (.Assign [.Tuple [.Name x px, .Name y py] kt pt] (.Tuple [a, b] k2 pt2) pos) (sPar [i, j] g) := (ps_par hc hN hi hj hij hx hy ha hw hs).imp fun D σ H q => by
  obtain ⟨ρ, e, h, R, E, a⟩ := q
  refine ⟨ρ, e, h, R, E, (a.ofA E).mono fun v H1 ⟨ρ1, d, h1, s, R1, r, E1, a1⟩ => ?_⟩
  split at a1
  · rename_i e1 he
    have hl := setAll_len he
    match d, v, r, hl with
    | [d1, d2], [v1, v2], .cons r1 (.cons r2 .nil), _ =>
      cases he
      exact ⟨v1, v2, rfl, a1 ρ1 _ H1 .rfl R1 ((E1.set r1 i).set r2 j)⟩
  · exact a1.elim
end
structure Src where
  item : Nat → Hea → Option (Option Val)
  fuel : Nat
  /-- the items, where they stand -/
  fix : Option (List Val)
  ok : ∀ xs, fix = some xs → item = (fun k _ => if k ≤ xs.length then some xs[k]? else none) ∧ fuel = xs.length + 1
def srcFix (xs : List Val) : Src := ⟨fun k _ => if k ≤ xs.length then some xs[k]? else none, xs.length + 1, some xs, fun _ h => by cases h; exact ⟨rfl, rfl⟩⟩
def srcLive (i : Nat) : Src := ⟨fun k h => (lstAt h i).map fun xs => xs[k]?, 100000, none, fun _ h => nomatch h⟩
def JOk (S : Sy) (ρ : Own) (H : Hp) (J : It) (it : Nat → Hea → Option (Option Val)) : Prop :=
  ∀ (ρ' : Own) (H' : Hp) (h' : Hea), Mv S ρ H ρ' H' → Rel S ρ' h' H' → ∀ k, match it k h' with
    | some none => J.stop k H'
    | some (some d) => J.go k H' ∧ ∀ x H'', J.yld k H' x H'' → Go S ρ' H' ρ' H'' ∧ Rel S ρ' h' H'' ∧ Rep S ρ' H'' d x
    | none => True
def AftI (S : Sy) (ρ : Own) (H : Hp) (r : Res Src) (R : It → Hp → Prop) (W : XK) : Prop := match r with
  | .ok s h' => ∀ ρ' H' J, Go S ρ H ρ' H' → Rel S ρ' h' H' → JOk S ρ' H' J s.item → R J H'
  | .exc c d h' => ∀ ρ' v H' dx, Go S ρ H ρ' H' → Rel S ρ' h' H' → Rep S ρ' H' d v → H' dx = some (.xd [(S.fld c, v)]) → W (.ref (S.ca c)) (some dx) H'
  | .stuck => False
def tI (S : Sy) (W : WX) (f : En → Hea → Res Src) : TI := fun σ H R => ∃ ρ e h, Rel S ρ h H ∧ ER S ρ H e σ ∧ AftI S ρ H (f e h) R (fun c d H' => W c d σ H')
abbrev SI (T : Tb) (X : Cx) (W : WX) (tg iter : Expr) (f : En → Hea → Res Src) : Prop := PI X tg iter (tI (sy T X) W f)
theorem _root_.L2.PI.imp {X : Cx} {tg e : Expr} {t t' : TI} (p : PI X tg e t) (h : ∀ σ H Q, t' σ H Q → t σ H Q) : PI X tg e t' := ⟨fun pins s σ H Q I q => p.run pins s σ H Q I (h σ H Q q)⟩
section
variable {S : Sy} {H : Hp} {ρ : Own}
theorem AftI.mono {r : Res Src} {R R' : It → Hp → Prop} {W : XK} (a : AftI S ρ H r R W) (h : ∀ v H', R v H' → R' v H') : AftI S ρ H r R' W := by
  cases r with
  | ok d h' => exact fun ρ1 H1 J s R j => h _ _ (a ρ1 H1 J s R j)
  | exc c d h' => exact a
  | stuck => exact a
theorem AftI.later {ρ1 : Own} {H1 : Hp} {r : Res Src} {R : It → Hp → Prop} {W : XK} (a : AftI S ρ H r R W) (s : Go S ρ H ρ1 H1) : AftI S ρ1 H1 r R W := by
  cases r with
  | ok d h' => exact fun ρ2 H2 J s2 => a ρ2 H2 J (s.trans s2)
  | exc c d h' => exact fun ρ2 v H2 dx s2 => a ρ2 v H2 dx (s.trans s2)
  | stuck => exact a
theorem AftI.bind {r : Res Val} {k : Val → Hea → Res Src} {R : It → Hp → Prop} {W : XK} (a : AftI S ρ H (r.bind k) R W) :
    Aft S ρ H r (fun v H1 => ∃ ρ1 d h1, Go S ρ H ρ1 H1 ∧ Rel S ρ1 h1 H1 ∧ Rep S ρ1 H1 d v ∧ AftI S ρ1 H1 (k d h1) R W) W := by
  cases r with
  | ok d h => exact fun ρ1 v H1 s R r => ⟨ρ1, d, h, s, R, r, AftI.later (r := k d h) a s⟩
  | exc c d h => exact a
  | stuck => exact a
theorem AftI.bindA {r : Res (List Val)} {k : List Val → Hea → Res Src} {R : It → Hp → Prop} {W : XK} (a : AftI S ρ H (r.bind k) R W) :
    AftA S ρ H r (fun v H1 => ∃ ρ1 d h1, Go S ρ H ρ1 H1 ∧ Rel S ρ1 h1 H1 ∧ Reps S ρ1 H1 d v ∧ AftI S ρ1 H1 (k d h1) R W) W := by
  cases r with
  | ok d h => exact fun ρ1 v H1 s R r => ⟨ρ1, d, h, s, R, r, AftI.later (r := k d h) a s⟩
  | exc c d h => exact a
  | stuck => exact a
theorem AftI.bindL {r : Res (List Val)} {k : List Val → Hea → Res Src} {R : It → Hp → Prop} {W : XK} (a : AftI S ρ H (r.bind k) R W) :
    AftL S ρ H r (fun v H1 => ∃ ρ1 d h1 p vs, Go S ρ H ρ1 H1 ∧ Rel S ρ1 h1 H1 ∧ v = .ref p ∧ H1 p = some (.lst vs) ∧ Fz ρ1 p ∧ Reps S ρ1 H1 d vs ∧ AftI S ρ1 H1 (k d h1) R W) W := by
  cases r with
  | ok d h => exact fun ρ1 p v H1 s R e n z r _ => ⟨ρ1, d, h, p, v, s, R, rfl, e, n, r, AftI.later (r := k d h) a s⟩
  | exc c d h => exact a
  | stuck => exact a
theorem jfix {J : It} {xs : List Val} (w : ∀ (ρ' : Own) (H' : Hp) (h' : Hea), Mv S ρ H ρ' H' → Rel S ρ' h' H' → ∀ k, k ≤ xs.length → match some xs[k]? with
    | some none => J.stop k H'
    | some (some d) => J.go k H' ∧ ∀ x H'', J.yld k H' x H'' → Go S ρ' H' ρ' H'' ∧ Rel S ρ' h' H'' ∧ Rep S ρ' H'' d x
    | none => True) : JOk S ρ H J (srcFix xs).item := fun ρ' H' h' g R k => by
  show match (if k ≤ xs.length then some xs[k]? else none) with | some none => _ | some (some d) => _ | none => _
  by_cases hk : k ≤ xs.length
  · rw [if_pos hk]
    exact w ρ' H' h' g R k hk
  · rw [if_neg hk]
    exact True.intro
/-- a tuple -/
theorem j_tup {a : Addr} {xs : List Val} {vs : List V} (sq : SqT S.K H a vs) (r : Reps S ρ H xs vs) : JOk S ρ H (Itt S.K a) (srcFix xs).item := jfix fun ρ' H' h' g R k _ => by
  have sq' := g.kp.1 _ _ sq
  have r' := r.mono g
  show match some xs[k]? with | some none => _ | some (some d) => _ | none => _
  cases e : xs[k]? with
  | none =>
    have hk : xs.length ≤ k := List.getElem?_eq_none_iff.mp e
    exact ⟨vs, sq', by rw [← r.length]; exact hk⟩
  | some d =>
    obtain ⟨v, ev, rv⟩ := r'.get e
    refine ⟨⟨vs, v, sq', ev⟩, fun x H'' ⟨eh, q⟩ => ?_⟩
    subst eh
    have z := q vs sq'
    rw [ev] at z
    cases z
    exact ⟨.rfl, R, rv⟩
/-- a list that nothing else holds -/
theorem j_tmp {a : Addr} {xs : List Val} {vs : List V} (sq : H a = some (.lst vs)) (n : Fz ρ a) (r : Reps S ρ H xs vs) : JOk S ρ H (Itl S.K a) (srcFix xs).item := jfix fun ρ' H' h' g R k _ => by
  have e' := g.lst n sq
  have sq' : SqL S.K H' a vs := .inl (.inl e')
  have r' := r.mono g
  show match some xs[k]? with | some none => _ | some (some d) => _ | none => _
  cases e : xs[k]? with
  | none =>
    have hk : xs.length ≤ k := List.getElem?_eq_none_iff.mp e
    exact ⟨vs, sq', by rw [← r.length]; exact hk⟩
  | some d =>
    obtain ⟨v, ev, rv⟩ := r'.get e
    refine ⟨⟨vs, v, sq', ev⟩, fun x H'' ⟨eh, q⟩ => ?_⟩
    subst eh
    have z := q vs sq'
    rw [ev] at z
    cases z
    exact ⟨.rfl, R, rv⟩
/-- a list of the heap, as it stands at each turn -/
theorem j_live {a : Addr} {i : Nat} (ea : ρ.nm[i]? = some a) : JOk S ρ H (Itl S.K a) (srcLive i).item := fun ρ' H' h' g R k => by
  show match (lstAt h' i).map fun xs => xs[k]? with | some none => _ | some (some d) => _ | none => _
  cases el : lstAt h' i with
  | none => exact True.intro
  | some xs =>
    obtain ⟨vs, sq', r'⟩ := R.lst el (g.sub _ _ ea)
    show match some xs[k]? with | some none => _ | some (some d) => _ | none => _
    cases e : xs[k]? with
    | none =>
      have hk : xs.length ≤ k := List.getElem?_eq_none_iff.mp e
      exact ⟨vs, sq', by rw [← r'.length]; exact hk⟩
    | some d =>
      obtain ⟨v, ev, rv⟩ := r'.get e
      refine ⟨⟨vs, v, sq', ev⟩, fun x H'' ⟨eh, q⟩ => ?_⟩
      subst eh
      have z := q vs sq'
      rw [ev] at z
      cases z
      exact ⟨.rfl, R, rv⟩
def rangeV (lo : Int) (n : Nat) : List Val := (List.range n).map fun (i : Nat) => Val.int (lo + (i : Int))
theorem j_range {lo : Int} {n : Nat} : JOk S ρ H (Itr lo n) (srcFix (rangeV lo n)).item := jfix fun ρ' H' h' g R k _ => by
  show match some (rangeV lo n)[k]? with | some none => _ | some (some d) => _ | none => _
  by_cases hk : k < n
  · have e : (rangeV lo n)[k]? = some (.int (lo + (k : Int))) := by
      unfold rangeV
      rw [List.getElem?_map, List.getElem?_range hk]
      rfl
    rw [e]
    refine ⟨hk, fun x H'' ⟨eh, q⟩ => ?_⟩
    subst eh q
    exact ⟨.rfl, R, .int _⟩
  · have e : (rangeV lo n)[k]? = none := by
      unfold rangeV
      rw [List.getElem?_eq_none_iff]
      simpa using hk
    rw [e]
    exact Nat.le_of_not_lt hk
end
/-- sources -/
def iVal (f : En → Hea → Res Val) : En → Hea → Res Src := fun e h => (f e h).bind fun d h1 => match d with
  | .ref i => if (lstAt h1 i).isSome = true then .ok (srcLive i) h1 else .stuck
  | .lst xs => .ok (srcFix xs) h1
  | _ => .stuck
def iTupV (f : En → Hea → Res Val) : En → Hea → Res Src := fun e h => (f e h).bind fun d h1 => match d with
  | .tup xs => .ok (srcFix xs) h1
  | _ => .stuck
def iTmp (f : En → Hea → Res (List Val)) : En → Hea → Res Src := fun e h => (f e h).bind fun xs h1 => .ok (srcFix xs) h1
def rngOk (i : Int) : Bool := decide (-(2 ^ 62) ≤ i ∧ i < 2 ^ 62)
def iRng1V (f : En → Hea → Res (List Val)) : En → Hea → Res Src := fun e h => (f e h).bind fun ds h1 => match ds with
  | [.int j] => if rngOk j = true then .ok (srcFix (rangeV 0 j.toNat)) h1 else .stuck
  | _ => .stuck
def iRng2V (f : En → Hea → Res (List Val)) : En → Hea → Res Src := fun e h => (f e h).bind fun ds h1 => match ds with
  | [.int i, .int j] => if (rngOk i && rngOk j) = true then .ok (srcFix (rangeV i (j - i).toNat)) h1 else .stuck
  | _ => .stuck
section
variable {T : Tb} {X : Cx} {W : WX} {tg a b c : Expr} {f : En → Hea → Res Val} {g : En → Hea → Res (List Val)} {pos p : Pos}
theorem si_val (ha : SE T X W a f) : SI T X W tg a (iVal f) := (pi_list ha).imp fun σ H Q q => by
  obtain ⟨ρ, e, h, R, E, a⟩ := q
  refine ⟨ρ, e, h, R, E, (AftI.bind a).mono fun v H1 ⟨ρ1, d, h1, s, R1, r, a1⟩ => ?_⟩
  split at a1
  · obtain ⟨p, rfl, ea⟩ := r.ref_
    split at a1
    · rename_i i hs
      obtain ⟨xs, hx⟩ := Option.isSome_iff_exists.mp hs
      obtain ⟨vs, sq, _⟩ := R1.lst hx ea
      exact ⟨p, rfl, ⟨vs, sq⟩, a1 ρ1 H1 _ .rfl R1 (j_live ea)⟩
    · exact a1.elim
  · cases r with
    | lst f h1 h2 => exact ⟨_, rfl, ⟨_, .inl (.inl h1)⟩, a1 ρ1 H1 _ .rfl R1 (j_tmp h1 f h2)⟩
  · exact a1.elim
theorem si_tup (ha : SE T X W a f) : SI T X W tg a (iTupV f) := (pi_tup ha).imp fun σ H Q q => by
  obtain ⟨ρ, e, h, R, E, a⟩ := q
  refine ⟨ρ, e, h, R, E, (AftI.bind a).mono fun v H1 ⟨ρ1, d, h1, s, R1, r, a1⟩ => ?_⟩
  split at a1
  · obtain ⟨p, vs, rfl, sq, rr⟩ := r.tup_
    exact ⟨p, rfl, ⟨vs, sq.sq⟩, a1 ρ1 H1 _ .rfl R1 (j_tup sq.sq rr)⟩
  · exact a1.elim
theorem si_tmp (ha : SL T X W a g) : SI T X W tg a (iTmp g) := (pi_list ha).imp fun σ H Q q => by
  obtain ⟨ρ, e, h, R, E, a⟩ := q
  refine ⟨ρ, e, h, R, E, (AftI.bindL a).mono fun v H1 ⟨ρ1, d, h1, p, vs, s, R1, ev, el, n, r, a1⟩ => ?_⟩
  subst ev
  exact ⟨p, rfl, ⟨vs, .inl (.inl el)⟩, a1 ρ1 H1 _ .rfl R1 (j_tmp el n r)⟩
theorem si_range1 (hg : Gl X "range") (hm : X.mg "range" = none) (ha : SA T X W [a] g) (hs : starEach [a] X.env = [(false, eval a X.env)] := by rfl) : SI T X W tg (.Call (.Name "range" p) [a] [] pos) (iRng1V g) := (pi_range1 hg hm ha hs).imp fun σ H Q q => by
  obtain ⟨ρ, e, h, R, E, a⟩ := q
  refine ⟨ρ, e, h, R, E, (AftI.bindA a).mono fun v H1 ⟨ρ1, d, h1, s, R1, r, a1⟩ => ?_⟩
  split at a1
  · obtain rfl := Reps.ints (ns := [_]) r
    split at a1
    · rename_i hr
      have hr := of_decide_eq_true hr
      exact ⟨_, rfl, hr.1, hr.2, a1 ρ1 H1 _ .rfl R1 j_range⟩
    · exact a1.elim
  · exact a1.elim
end
def forG (it : Nat → Hea → Option (Option Val)) (b : Val → En → Option En) (body : En → Hea → SRes) : Nat → Nat → En → Hea → SRes
  | 0, _, _, _ => .stuck
  | n + 1, k, e, h => match it k h with
    | some none => .nx e h
    | some (some v) => match b v e with
      | some e1 => match body e1 h with
        | .nx e2 h2 => forG it b body n (k + 1) e2 h2
        | .ct e2 h2 => forG it b body n (k + 1) e2 h2
        | .bk e2 h2 => .nx e2 h2
        | r => r
      | none => .stuck
    | none => .stuck
def forL (b : Val → En → Option En) (body : En → Hea → SRes) : List Val → En → Hea → SRes
  | [], e, h => .nx e h
  | v :: vs, e, h => match b v e with
    | some e1 => match body e1 h with
      | .nx e2 h2 => forL b body vs e2 h2
      | .ct e2 h2 => forL b body vs e2 h2
      | .bk e2 h2 => .nx e2 h2
      | r => r
    | none => .stuck
theorem fix_item (xs : List Val) {k : Nat} (hk : k ≤ xs.length) (h : Hea) : (srcFix xs).item k h = some xs[k]? := by
  show (if k ≤ xs.length then some xs[k]? else none) = _
  rw [if_pos hk]
theorem forG_fix (b : Val → En → Option En) (body : En → Hea → SRes) (xs : List Val) : ∀ (m k : Nat) (e : En) (h : Hea), k + m = xs.length + 1 → 0 < m → forG (srcFix xs).item b body m k e h = forL b body (xs.drop k) e h := by
  intro m
  induction m with
  | zero => intro k e h hm h0; omega
  | succ m ih =>
    intro k e h hm _
    unfold forG
    rw [fix_item xs (by omega)]
    by_cases hk : k < xs.length
    · rw [List.getElem?_eq_getElem hk, List.drop_eq_getElem_cons hk]
      unfold forL
      dsimp only
      cases b xs[k] e with
      | none => rfl
      | some e1 =>
        dsimp only
        cases body e1 h with
        | nx e2 h2 => exact ih (k + 1) e2 h2 (by omega) (by omega)
        | ct e2 h2 => exact ih (k + 1) e2 h2 (by omega) (by omega)
        | _ => rfl
    · rw [List.getElem?_eq_none_iff.mpr (by omega), List.drop_eq_nil_of_le (by omega)]
      rfl
def runFor (s : Src) (b : Val → En → Option En) (body : En → Hea → SRes) (e : En) (h : Hea) : SRes := match s.fix with
  | some xs => forL b body xs e h
  | none => forG s.item b body s.fuel 0 e h
theorem runFor_eq {s : Src} {b : Val → En → Option En} {body : En → Hea → SRes} {e : En} {h : Hea} : runFor s b body e h = forG s.item b body s.fuel 0 e h := by
  unfold runFor
  cases hf : s.fix with
  | none => rfl
  | some xs =>
    obtain ⟨e1, e2⟩ := s.ok xs hf
    rw [e1, e2]
    exact (forG_fix b body xs (xs.length + 1) 0 e h (by omega) (by omega)).symm
def sFor (src : En → Hea → Res Src) (b : Val → En → Option En) (body : En → Hea → SRes) : En → Hea → SRes := fun e h => ofR (src e h) e fun s h1 => runFor s b body e h1
section
variable {S : Sy} {W : WX} {H : Hp} {D : Ends} {ρ : Own} {σ : St} {e : En}
theorem AftS.ofI {r : Res Src} {k : Src → Hea → SRes} (a : AftS S ρ H (Lad.ofR r e k) D W) (E : ER S ρ H e σ) :
    AftI S ρ H r (fun J H1 => ∃ ρ1 d h1, Go S ρ H ρ1 H1 ∧ Rel S ρ1 h1 H1 ∧ JOk S ρ1 H1 J d.item ∧ ER S ρ1 H1 e σ ∧ AftS S ρ1 H1 (k d h1) D W) (fun c d H' => W c d σ H') := by
  cases r with
  | ok d h => exact fun ρ1 H1 J s R r => ⟨ρ1, d, h, s, R, r, E.go s, AftS.later (r := k d h) a s⟩
  | exc c d h => exact fun ρ1 v H1 dx s R r x => a ρ1 v σ H1 dx s R r (E.go s) x
  | stuck => exact a
end
section
variable {T : Tb} {X : Cx} {W : WX} {tg a : Expr} {src : En → Hea → Res Src} {f : En → Hea → Res Val} {body : List Stmt} {fb : En → Hea → SRes} {g : TG} {b : Val → En → Option En} {vs : List Nat} {pos : Pos}
theorem st_for (hp : PassesOwn (model X.prog X.w) X.A X.env X.xe) (hc : X.calm = true) (hi : SI T X W tg a src) (hg : PG X tg g) (ok : GOk (sy T X) vs g b) (hb : SSs T X W body fb) (hs : ∀ x, foldedSetIterable a X.env x = pure x := by intro _; rfl) :
    SSt T X W (.For tg a body [] pos) (sFor src b fb) := by
  refine PS.imp (ps_for hp hc hi hg hb hs) fun D σ H q => ?_
  obtain ⟨ρ, e, h, R, E, a⟩ := q
  refine ⟨ρ, e, h, R, E, (a.ofI E).mono fun J H1 ⟨ρ1, d, h1, s, R1, j, E1, a1⟩ => ?_⟩
  have a1 : AftS (sy T X) ρ1 H1 (forG d.item b fb d.fuel 0 e h1) D W := by rw [← runFor_eq]; exact a1
  refine ⟨fun k m σ H2 => ∃ ρ2 e2 h2, Go (sy T X) ρ1 H1 ρ2 H2 ∧ Rel (sy T X) ρ2 h2 H2 ∧ ER (sy T X) ρ2 H2 e2 σ ∧ AftS (sy T X) ρ2 H2 (forG d.item b fb m k e2 h2) D W, ⟨d.fuel, ρ1, e, h1, .rfl, R1, E1, a1⟩, fun k m σ H2 w => ?_⟩
  obtain ⟨ρ2, e2, h2, g2, R2, E2, a2⟩ := w
  cases m with
  | zero => exact a2.elim
  | succ m =>
    have jk := j ρ2 H2 h2 g2.mv R2 k
    unfold forG at a2
    cases hit : d.item k h2 with
    | none => rw [hit] at a2; exact a2.elim
    | some o =>
      rw [hit] at a2 jk
      cases o with
      | none => exact .inl ⟨jk, a2 ρ2 σ H2 .rfl R2 E2⟩
      | some v =>
        refine .inr ⟨jk.1, fun σ' H' => ∃ ρ2 e2 h2, Go (sy T X) ρ1 H1 ρ2 H' ∧ Rel (sy T X) ρ2 h2 H' ∧ ER (sy T X) ρ2 H' e2 σ' ∧ AftS (sy T X) ρ2 H' (forG d.item b fb m (k + 1) e2 h2) D W, fun σ' H' z => ⟨m, Nat.lt_succ_self m, z⟩, fun x H' y => ?_⟩
        obtain ⟨g3, R3, r3⟩ := jk.2 x H' y
        dsimp only at a2
        cases hbv : b v e2 with
        | none => rw [hbv] at a2; exact a2.elim
        | some e3 =>
          rw [hbv] at a2
          refine ok ρ2 H' h2 e2 σ v x e3 _ R3 (E2.go g3) r3 hbv fun σ3 E3 _ => ⟨ρ2, e3, h2, R3, E3, ?_⟩
          have g4 := g2.trans g3
          have a3 := AftS.later a2 g3
          dsimp only at a3
          revert a3
          cases fb e3 h2 with
          | nx e4 h4 => exact fun a3 ρ4 σ4 H4 s4 R4 E4 => ⟨ρ4, e4, h4, g4.trans s4, R4, E4, a3.later s4⟩
          | ct e4 h4 => exact fun a3 ρ4 σ4 H4 s4 R4 E4 => ⟨ρ4, e4, h4, g4.trans s4, R4, E4, a3.later s4⟩
          | bk e4 h4 => exact fun a3 ρ4 σ4 H4 s4 R4 E4 => a3 ρ4 σ4 H4 s4 R4 E4
          | rt v4 h4 => exact fun a3 => a3
          | exc c4 d4 e4 h4 => exact fun a3 => a3
          | stuck => exact fun a3 => a3
end
end Lad
end
section
set_option maxRecDepth 100000
set_option maxHeartbeats 1000000
namespace Lad
open PySem L2
def noX {α : Type} (r : Res α) : Res α := match r with
  | .ok a h => .ok a h
  | _ => .stuck
def wipeE (e : En) : List Nat → En
  | [] => e
  | v :: vs => (wipeE e vs).set v none
def compG (it : Nat → Hea → Option (Option Val)) (b : Val → En → Option En) (tt f : En → Hea → Res Val) (e0 : En) : Nat → Nat → List Val → Hea → Res (List Val)
  | 0, _, _, _ => .stuck
  | n + 1, k, acc, h => match it k h with
    | some none => .ok acc h
    | some (some v) => match b v e0 with
      | some e1 => (noX (tt e1 h)).bind fun c h1 => match c with
        | .bl true => (noX (f e1 h1)).bind fun y h2 => if acc.length < 16777216 then compG it b tt f e0 n (k + 1) (acc ++ [y]) h2 else .stuck
        | .bl false => compG it b tt f e0 n (k + 1) acc h1
        | _ => .stuck
      | none => .stuck
    | none => .stuck
theorem bindOk {α β : Type} {a : α} {h : Hea} {k : α → Hea → Res β} : (Res.ok a h).bind k = k a h := rfl
def compL (b : Val → En → Option En) (tt f : En → Hea → Res Val) (e0 : En) : List Val → Hea → Res (List Val)
  | [], h => .ok [] h
  | v :: vs, h => match b v e0 with
    | some e1 => (noX (tt e1 h)).bind fun c h1 => match c with
      | .bl true => (noX (f e1 h1)).bind fun y h2 => (compL b tt f e0 vs h2).bind fun ys h3 => .ok (y :: ys) h3
      | .bl false => compL b tt f e0 vs h1
      | _ => .stuck
    | none => .stuck
theorem compG_fix (b : Val → En → Option En) (tt f : En → Hea → Res Val) (e0 : En) (xs : List Val) (hz : xs.length ≤ 16777216) : ∀ (m k : Nat) (acc : List Val) (h : Hea), k + m = xs.length + 1 → 0 < m → acc.length ≤ k →
    compG (srcFix xs).item b tt f e0 m k acc h = (compL b tt f e0 (xs.drop k) h).bind fun ys h1 => .ok (acc ++ ys) h1 := by
  intro m
  induction m with
  | zero => intro k acc h hm h0; omega
  | succ m ih =>
    intro k acc h hm _ ha
    unfold compG
    rw [fix_item xs (by omega)]
    by_cases hk : k < xs.length
    · rw [List.getElem?_eq_getElem hk, List.drop_eq_getElem_cons hk]
      unfold compL
      dsimp only
      cases b xs[k] e0 with
      | none => rfl
      | some e1 =>
        dsimp only
        cases noX (tt e1 h) with
        | ok c h1 =>
          simp only [bindOk]
          cases c with
          | bl c =>
            cases c with
            | true =>
              dsimp only
              cases noX (f e1 h1) with
              | ok y h2 =>
                simp only [bindOk]
                rw [if_pos (by omega), ih (k + 1) (acc ++ [y]) h2 (by omega) (by omega) (by simp; omega)]
                cases compL b tt f e0 (xs.drop (k + 1)) h2 with
                | ok ys h3 => simp [bindOk]
                | exc c d h3 => rfl
                | stuck => rfl
              | exc c d h2 => rfl
              | stuck => rfl
            | false =>
              dsimp only
              exact ih (k + 1) acc h1 (by omega) (by omega) (by omega)
          | _ => rfl
        | exc c d h1 => rfl
        | stuck => rfl
    · rw [List.getElem?_eq_none_iff.mpr (by omega), List.drop_eq_nil_of_le (by omega)]
      simp [compL, bindOk]
def runComp (s : Src) (b : Val → En → Option En) (tt f : En → Hea → Res Val) (e0 : En) (h : Hea) : Res (List Val) := match s.fix with
  | some xs => if xs.length ≤ 16777216 then compL b tt f e0 xs h else compG s.item b tt f e0 s.fuel 0 [] h
  | none => compG s.item b tt f e0 s.fuel 0 [] h
theorem runComp_eq {s : Src} {b : Val → En → Option En} {tt f : En → Hea → Res Val} {e0 : En} {h : Hea} : runComp s b tt f e0 h = compG s.item b tt f e0 s.fuel 0 [] h := by
  unfold runComp
  cases hf : s.fix with
  | none => rfl
  | some xs =>
    dsimp only
    split
    · rename_i hz
      obtain ⟨e1, e2⟩ := s.ok xs hf
      rw [e1, e2]
      refine Eq.trans ?_ (compG_fix b tt f e0 xs hz (xs.length + 1) 0 [] h (by omega) (by omega) (by simp)).symm
      rw [List.drop_zero]
      cases compL b tt f e0 xs h <;> rfl
    · rfl
def lComp (own : List Nat) (src : En → Hea → Res Src) (b : Val → En → Option En) (tt f : En → Hea → Res Val) : En → Hea → Res (List Val) := fun e h => (src e h).bind fun s h1 => runComp s b tt f (wipeE e own) h1
def eYes : En → Hea → Res Val := fun _ h => .ok (.bl true) h
abbrev W0 : WX := fun _ _ _ _ => False
section
variable {S : Sy} {ρ ρ1 ρ2 : Own} {H H1 Hc : Hp} {h : Hea} {D : Addr} {us us' : List V}
theorem Go.tmp (g : Go S ρ1 H1 ρ2 Hc) (z : H1 D = Option.none) (e : Hc D = some (.lst us)) : Go S ρ1 H1 ρ2 (upd Hc D (.lst us')) :=
  ⟨g.sub, g.kp.trans (.put e True.intro), fun a o q n => by rw [upd_ne (ne_of_none q z)]; exact g.fr a o q n, g.nw, g.hd⟩
/-- what is being made is changed -/
theorem Rel.off (R : Rel S ρ h H) {o : HO} {u : HO} (n : Off ρ D) (m : D ∈ ρ.hd) (e : H D = some u) (h1 : Ch u) : Rel S ρ h (upd H D o) :=
  ⟨R.len, R.inj, fun i ob a e1 e2 => (R.ob i ob a e1 e2).mono (.hid m e h1) (upd_ne fun z => n i (z ▸ e2)), fun a m => let ⟨⟨_, e⟩, z⟩ := R.hid a m; ⟨upd_some e, z⟩⟩
theorem Rel.hideNew (R : Rel S ρ h H) {o : HO} (n : H D = none) : Rel S (ρ.hide D) h (upd H D o) := by
  have m : Mv S ρ H (ρ.hide D) (upd H D o) := ⟨fun _ _ h => h, .new n, fun a u e f => ⟨⟨u, by rw [upd_ne (ne_of_none e n)]; exact e, .rfl⟩, f.1, fun m => by
    rcases List.mem_cons.mp m with m | m
    · exact ne_of_none e n m
    · exact f.2 m⟩⟩
  refine ⟨R.len, R.inj, fun i ob a e1 e2 => (R.ob i ob a e1 e2).mono m (upd_ne fun z => R.free n (z ▸ e2)), fun a m => ?_⟩
  rcases List.mem_cons.mp m with m | m
  · subst m
    exact ⟨⟨_, upd_same⟩, fun i z => R.free n z⟩
  · obtain ⟨⟨_, e⟩, z⟩ := R.hid a m
    exact ⟨upd_some e, z⟩
theorem Go.reh {η : List Addr} (g : Go S ρ H ρ1 H1) (hh : ρ.hd = D :: η) : Go S ⟨ρ.nm, η⟩ H ⟨ρ1.nm, η⟩ H1 := ⟨g.sub, g.kp, fun a o e n => ⟨(g.fr a o e n).1, fun m => (g.fr a o e n).2 (by rw [hh]; exact List.mem_cons_of_mem _ m)⟩, g.nw, Eq.refl _⟩
theorem Go.mvh (g : Go S ρ1 H1 ⟨ρ2.nm, ρ1.hd⟩ Hc) (hh : ρ2.hd = D :: ρ1.hd) (z : H1 D = Option.none) : Mv S ρ1 H1 ρ2 Hc := ⟨g.sub, g.kp, fun a o e f => by
  obtain ⟨h1, h2⟩ := g.mv.fz a o e f
  refine ⟨h1, h2.1, ?_⟩
  rw [hh]
  intro m
  rcases List.mem_cons.mp m with m | m
  · exact ne_of_none e z m
  · exact f.2 m⟩
/-- the thing that was being made is made: it is held -/
theorem Rel.shown {η : List Addr} {xs : List Val} (R : Rel S ρ h H) (hh : ρ.hd = D :: η) (nη : D ∉ η) (n : Off ρ D) (e : H D = some (.lst us)) (r : Reps S ρ H xs us) :
    Rel S ⟨ρ.nm, η⟩ h H ∧ Reps S ⟨ρ.nm, η⟩ H xs us ∧ Rel S (Own.add ⟨ρ.nm, η⟩ D) (h ++ [.lst xs]) H := by
  have m1 : Mv S ρ H ⟨ρ.nm, η⟩ H := ⟨fun _ _ h => h, .rfl, fun a o e f => ⟨⟨o, e, .rfl⟩, f.1, fun m => f.2 (by rw [hh]; exact List.mem_cons_of_mem _ m)⟩⟩
  have m2 : Mv S ρ H (Own.add ⟨ρ.nm, η⟩ D) H := ⟨Sub.app (ρ := ⟨ρ.nm, η⟩), .rfl, fun a o e f => ⟨⟨o, e, .rfl⟩, (m1.fz a o e f).2.add fun z => f.2 (by rw [hh, z]; exact List.mem_cons_self)⟩⟩
  have hi : ∀ a, a ∈ η → (∃ u, H a = some u) ∧ Off (⟨ρ.nm, η⟩ : Own) a := fun a m => R.hid a (by rw [hh]; exact List.mem_cons_of_mem _ m)
  refine ⟨⟨R.len, R.inj, fun i o a e1 e2 => (R.ob i o a e1 e2).mono m1 rfl, hi⟩, r.mono m1, ?_⟩
  exact Rel.grow (ρ := ⟨ρ.nm, η⟩) R.len R.inj n (fun i o a e1 e2 => (R.ob i o a e1 e2).mono m2 rfl) (.lst e (r.mono m2)) hi nη
theorem ER.wipe {e : En} {σ : St} (E : ER S ρ H e σ) : ∀ vs : List Nat, ER S ρ H (wipeE e vs) (L2.wipe σ vs)
  | [] => E
  | v :: vs => (E.wipe vs).gone v
theorem AftL.bindI {r : Res Src} {k : Src → Hea → Res (List Val)} {Q : VK} {W : XK} (a : AftL S ρ H (r.bind k) Q W) :
    AftI S ρ H r (fun J H1 => ∃ ρ1 d h1, Go S ρ H ρ1 H1 ∧ Rel S ρ1 h1 H1 ∧ JOk S ρ1 H1 J d.item ∧ AftL S ρ1 H1 (k d h1) Q W) W := by
  cases r with
  | ok d h => exact fun ρ1 H1 J s R j => ⟨ρ1, d, h, s, R, j, AftL.later (r := k d h) a s⟩
  | exc c d h => exact a
  | stuck => exact a
theorem AftL.noX {r : Res Val} {k : Val → Hea → Res (List Val)} {Q : VK} {W : XK} (a : AftL S ρ H ((Lad.noX r).bind k) Q W) :
    ∃ d h1, r = .ok d h1 ∧ AftL S ρ H (k d h1) Q W := by
  cases r with
  | ok d h => exact ⟨d, h, rfl, a⟩
  | exc c d h => exact a.elim
  | stuck => exact a.elim
end
section
variable {T : Tb} {X : Cx} {W : WX} {tg iter elt : Expr} {ifs : List Expr} {scope : Scope} {own : List (Str × Nat)} {src : En → Hea → Res Src} {tt f : En → Hea → Res Val} {g : TG} {b : Val → En → Option En} {pos : Pos}
abbrev STs (T : Tb) (X : Cx) (W : WX) (ifs : List Expr) (f : En → Hea → Res Val) : Prop := PTs X ifs (tB (tE (sy T X) W f))
theorem _root_.L2.PTs.imp {t t' : TT} (p : PTs X ifs t) (h : ∀ σ H Q, t' σ H Q → t σ H Q) : PTs X ifs t' := ⟨fun pins s σ H Q I q => p.run pins s σ H Q I (h σ H Q q)⟩
theorem sts_nil : STs T X W [] eYes := pts_nil.imp fun σ H Q q => by
  obtain ⟨ρ, e, h, R, E, a⟩ := q
  obtain ⟨c, ec, q⟩ := a.same R (.bl true)
  cases ec
  exact q
theorem sts_one {c : Expr} (h : ST T X W c f) : STs T X W [c] f := pts_one h
theorem lc_imp (ok : GOk (sy T X) (own.map (·.2)) g b) {σ : St} {H : Hp} {Q : VK} (q : tL (sy T X) W (lComp (own.map (·.2)) src b tt f) σ H Q) :
    tLc (tI (sy T X) W src) g (tB (tE (sy T X) W0 tt)) (tE (sy T X) W0 f) (own.map (·.2)) σ H Q := by
  obtain ⟨ρ, e, h, R, E, a⟩ := q
  refine ⟨ρ, e, h, R, E, (AftL.bindI a).mono fun J H1 ⟨ρ1, d, h1, s, R1, j, a1⟩ => fun D hD => ?_⟩
  have E1 : ER (sy T X) ρ1 H1 e σ := E.go s
  have ew := E1.wipe (own.map (·.2))
  rw [runComp_eq] at a1
  refine ⟨fun k m Hc => ∃ ρ2 h2 acc us, ρ2.hd = D :: ρ1.hd ∧ Go (sy T X) ρ1 H1 ⟨ρ2.nm, ρ1.hd⟩ Hc ∧ Rel (sy T X) ρ2 h2 Hc ∧ Hc D = some (.lst us) ∧ Off ρ2 D ∧ Reps (sy T X) ρ2 Hc acc us ∧ AftL (sy T X) ρ1 H1 (compG d.item b tt f (wipeE e (own.map (·.2))) m k acc h2) Q (fun c d H' => W c d σ H'),
    ⟨d.fuel, ρ1.hide D, h1, [], [], rfl, .side hD, R1.hideNew hD, upd_same, fun i z => R1.free hD z, .nil, a1⟩, fun k m Hc w => ?_⟩
  obtain ⟨ρ2, h2, acc, us, hh, g2, R2, hDc, nD, rA, a2⟩ := w
  have mD : D ∈ ρ2.hd := by rw [hh]; exact List.mem_cons_self
  cases m with
  | zero => exact a2.elim
  | succ m =>
    have jk := j ρ2 Hc h2 (g2.mvh hh hD) R2 k
    unfold compG at a2
    cases hit : d.item k h2 with
    | none => rw [hit] at a2; exact a2.elim
    | some o =>
      rw [hit] at a2 jk
      cases o with
      | none =>
        obtain ⟨k1, k2, k3⟩ := R2.shown hh (R1.fz hD).2 nD hDc rA
        exact .inl ⟨jk, a2 ⟨ρ2.nm, ρ1.hd⟩ D us Hc g2 k1 hDc ⟨nD, (R1.fz hD).2⟩ hD k2 k3⟩
      | some v =>
        refine .inr ⟨jk.1, fun Hc => ∃ ρ2 h2 acc us, ρ2.hd = D :: ρ1.hd ∧ Go (sy T X) ρ1 H1 ⟨ρ2.nm, ρ1.hd⟩ Hc ∧ Rel (sy T X) ρ2 h2 Hc ∧ Hc D = some (.lst us) ∧ Off ρ2 D ∧ Reps (sy T X) ρ2 Hc acc us ∧ AftL (sy T X) ρ1 H1 (compG d.item b tt f (wipeE e (own.map (·.2))) m (k + 1) acc h2) Q (fun c d H' => W c d σ H'),
          fun H' z => ⟨m, Nat.lt_succ_self m, z⟩, fun x H' y => ?_⟩
        obtain ⟨g3, R3, r3⟩ := jk.2 x H' y
        dsimp only at a2
        cases hbv : b v (wipeE e (own.map (·.2))) with
        | none => rw [hbv] at a2; exact a2.elim
        | some e3 =>
          rw [hbv] at a2
          have g4 := g2.trans (g3.reh hh)
          refine ok ρ2 H' h2 _ _ v x e3 _ R3 ((E1.wipe _).mono ((g2.mvh hh hD).trans g3.mv)) r3 hbv fun σ3 E3 w3 => ⟨?_, ρ2, e3, h2, R3, E3, ?_⟩
          · rw [w3]
            have : ∀ vs : List Nat, L2.wipe (L2.wipe σ vs) vs = L2.wipe σ vs := by
              intro vs
              have key : ∀ (ws : List Nat) (τ : St), (∀ i ∈ ws, ∀ y, τ[i]? ≠ some (some y)) → L2.wipe τ ws = τ := by
                intro ws
                induction ws with
                | nil => intro _ _; rfl
                | cons w ws ih =>
                  intro τ hτ
                  show (L2.wipe τ ws).set w none = τ
                  rw [ih τ fun i hi => hτ i (List.mem_cons_of_mem _ hi)]
                  apply List.ext_getElem?
                  intro n
                  by_cases hn : w = n
                  · subst hn
                    by_cases hl : w < τ.length
                    · rw [List.getElem?_set_self hl]
                      have := hτ w List.mem_cons_self
                      cases q : τ[w]? with
                      | none => rw [List.getElem?_eq_none_iff] at q; omega
                      | some o =>
                        cases o with
                        | none => rfl
                        | some y => exact absurd q (this y)
                    · rw [List.getElem?_eq_none_iff.mpr (by simpa using hl), List.getElem?_eq_none_iff.mpr (by simpa using hl)]
                  · rw [List.getElem?_set_ne hn]
              exact key vs _ fun i hi y hy => (wipe_some hy).2 hi
            exact this _
          · dsimp only at a2
            obtain ⟨cb, hb1, ht, a3⟩ := a2.noX
            rw [ht]
            refine fun ρ5 v5 H5 s5 R5 r5 => ?_
            have g5 := g4.trans (s5.reh (g3.hd.trans hh))
            have hh5 : ρ5.hd = D :: ρ1.hd := s5.hd.trans hh
            have off5 : Off ρ5 D := fun i z => by
              rcases s5.nw i D z with ⟨jj, q⟩ | q
              · exact nD jj q
              · rw [g3.lst hDc nD] at q; cases q
            have hD5 : H5 D = some (.lst us) := s5.lst (g3.lst hDc nD) nD
            split at a3
            · obtain rfl := r5.bl_
              refine ⟨true, rfl, ?_⟩
              refine itT rfl ?_
              obtain ⟨yv, hb2, hf, a4⟩ := a3.noX
              refine ⟨ρ5, e3, hb1, R5, E3.go s5, ?_⟩
              rw [hf]
              refine fun ρ6 v6 H6 s6 R6 r6 => ?_
              have off6 : Off ρ6 D := fun i z => by
                rcases s6.nw i D z with ⟨jj, q⟩ | q
                · exact off5 jj q
                · rw [hD5] at q; cases q
              have hD6 : H6 D = some (.lst us) := s6.lst hD5 off5
              have hh6 : ρ6.hd = D :: ρ1.hd := s6.hd.trans hh5
              have mD6 : D ∈ ρ6.hd := by rw [hh6]; exact List.mem_cons_self
              have rl := rA.length
              split at a4
              · rename_i hl
                refine ⟨us, hD6, by rw [sizeLine_eq]; omega, ρ6, hb2, acc ++ [yv], us ++ [v6], hh6, (g5.trans (s6.reh hh5)).tmp hD hD6, R6.off off6 mD6 hD6 True.intro, upd_same, off6, ?_, a4⟩
                exact (((rA.go g3).go (s5.trans s6)).app (.one r6)).mono (.hid mD6 hD6 True.intro)
              · exact a4.elim
            · obtain rfl := r5.bl_
              refine ⟨false, rfl, ?_⟩
              refine itF rfl ?_
              exact ⟨ρ5, hb1, acc, us, hh5, g5, R5, hD5, off5, (rA.go g3).go s5, a3⟩
            · exact a3.elim
theorem sl_comp (hc : X.calm = true) (hN : X.N.Nodup) (hi : SI T X W tg iter src) (bk : BlkOk X.N X.env.scope scope own)
    (hg : ∀ (s : Shared) (H : Hp) (C : Addr) (cl : List (Str × Addr)) (fp : List Addr), PG (X.blk s H scope (compEnvC scope cl C X.env) fp) tg g)
    (ok : GOk (sy T X) (own.map (·.2)) g b)
    (ht : ∀ (s : Shared) (H : Hp) (C : Addr) (cl : List (Str × Addr)) (fp : List Addr), STs T (X.blk s H scope (compEnvC scope cl C X.env) fp) W0 ifs tt)
    (he : ∀ (s : Shared) (H : Hp) (C : Addr) (cl : List (Str × Addr)) (fp : List Addr), SE T (X.blk s H scope (compEnvC scope cl C X.env) fp) W0 elt f)
    (hs : ∀ x, foldedSetIterable iter X.env x = pure x := by intro _; rfl) :
    SL T X W (.ListComp elt [⟨tg, iter, ifs, 0⟩] scope pos) (lComp (own.map (·.2)) src b tt f) :=
  (pe_lc hc hN hi bk hg ht he hs).imp fun σ H Q q => lc_imp ok q
/-- name = [..] on one line, a list that nothing changes -/
theorem st_setLcF {i : Nat} {y : Str} {py spos : Pos} (hc : X.calm = true) (hN : X.N.Nodup) (hy : X.N[i]? = some y) (hyl : X.env.scope.names.lookup y = some .local)
    (hsw : swapsWith (.ListComp elt [⟨tg, iter, ifs, 0⟩] scope pos) (some (.Name y py)) spos.line X.env = pure true) (hi : SI T X W tg iter src) (bk : BlkOk X.N X.env.scope scope own)
    (hg : ∀ (s : Shared) (H : Hp) (C : Addr) (cl : List (Str × Addr)) (fp : List Addr), PG (X.blk s H scope (compEnvC scope cl C X.env) fp) tg g)
    (ok : GOk (sy T X) (own.map (·.2)) g b)
    (ht : ∀ (s : Shared) (H : Hp) (C : Addr) (cl : List (Str × Addr)) (fp : List Addr), STs T (X.blk s H scope (compEnvC scope cl C X.env) fp) W0 ifs tt)
    (he : ∀ (s : Shared) (H : Hp) (C : Addr) (cl : List (Str × Addr)) (fp : List Addr), SE T (X.blk s H scope (compEnvC scope cl C X.env) fp) W0 elt f)
    (hs : ∀ x, foldedSetIterable iter X.env x = pure x := by intro _; rfl) :
    SSt T X W (.Assign [.Name y py] (.ListComp elt [⟨tg, iter, ifs, 0⟩] scope pos) spos) (sSet i (eLst (lComp (own.map (·.2)) src b tt f))) :=
  (ps_setLc hc hN hy hyl hsw hi bk hg ht he hs).imp fun D σ H q => by
    refine lc_imp (W := W) (tt := tt) (f := f) (Q := fun x H1 => gName i x σ H1 D.nx) ok ?_
    obtain ⟨ρ, e, h, R, E, a⟩ := q
    refine ⟨ρ, e, h, R, E, ?_⟩
    unfold sSet eLst at a
    revert a
    cases lComp (own.map (·.2)) src b tt f e h with
    | ok xs h1 => exact fun a ρ1 p vs H1 s R1 el n z r k => a ρ1 _ H1 s R1 ((E.go s).set (.lst n el r) i)
    | exc c d h1 => exact fun a ρ1 v H1 dx s R1 r x => a ρ1 v σ H1 dx s R1 r (E.go s) x
    | stuck => exact id
end
end Lad
end
section
set_option maxRecDepth 100000
set_option maxHeartbeats 1000000
namespace Lad
open PySem L2
mutual
def Val.und (n : Nat) : Val → Bool
  | .tup xs => undL n xs
  | .lst xs => undL n xs
  | .dic _ _ vs => undL n vs
  | .obj _ _ vs => undL n vs
  | .ref i => Nat.blt i n
  | .exn _ d => d.und n
  | _ => true
def undL (n : Nat) : List Val → Bool
  | [] => true
  | x :: xs => x.und n && undL n xs
end
def undKv (n : Nat) : List (Val × Val) → Bool
  | [] => true
  | (_, x) :: xs => x.und n && undKv n xs
mutual
theorem nk_rep {S S' : Sy} {ρ ρ' : Own} {H : Hp} (hK : S'.K = S.K) : ∀ (n : Nat) {d : Val} {k : NestedKey} {v : V}, nkF n d = some k → Rep S ρ H d v → Rep S' ρ' H d v
  | n + 1, .tup xs, _, _, e, .tup sq r => by
    unfold nkF at e
    cases hk : nkAll (nkF n) xs with
    | none => rw [hk] at e; cases e
    | some ks => exact .tup (by rw [hK]; exact sq) (nk_reps hK n hk r)
  | 0, .tup xs, _, _, e, _ => by cases e
  | _, .int i, _, _, _, .int _ => .int i
  | _, .bl i, _, _, _, .bl _ => .bl i
  | _, .str i, _, _, _, .str _ => .str i
  | _, .non, _, _, _, .non => .non
  | 0, .lst _, _, _, e, _ => by cases e
  | n + 1, .lst _, _, _, e, _ => by cases e
  | 0, .dic _ _ _, _, _, e, _ => by cases e
  | n + 1, .dic _ _ _, _, _, e, _ => by cases e
  | 0, .obj _ _ _, _, _, e, _ => by cases e
  | n + 1, .obj _ _ _, _, _, e, _ => by cases e
  | 0, .ref _, _, _, e, _ => by cases e
  | n + 1, .ref _, _, _, e, _ => by cases e
  | 0, .exn _ _, _, _, e, _ => by cases e
  | n + 1, .exn _ _, _, _, e, _ => by cases e
theorem nk_reps {S S' : Sy} {ρ ρ' : Own} {H : Hp} (hK : S'.K = S.K) : ∀ (n : Nat) {ds : List Val} {ks : List NestedKey} {vs : List V}, nkAll (nkF n) ds = some ks → Reps S ρ H ds vs → Reps S' ρ' H ds vs
  | _, [], _, _, _, .nil => .nil
  | n, d :: ds, _, _, e, .cons r t => by
    unfold nkAll at e
    cases h1 : nkF n d with
    | none => rw [h1] at e; cases e
    | some k =>
      cases h2 : nkAll (nkF n) ds with
      | none => rw [h1, h2] at e; cases e
      | some ks => exact .cons (nk_rep hK n h1 r) (nk_reps hK n h2 t)
end
theorem toNK_rep {S S' : Sy} {ρ ρ' : Own} {H : Hp} (hK : S'.K = S.K) {d : Val} {k : NestedKey} {v : V} (e : toNK d = some k) (r : Rep S ρ H d v) : Rep S' ρ' H d v := by
  unfold toNK at e
  cases d with
  | tup xs => exact nk_rep hK 8 e r
  | _ => cases e
theorem toNK_reps {S S' : Sy} {ρ ρ' : Own} {H : Hp} (hK : S'.K = S.K) : ∀ {ds : List Val} {vs : List V} {ps : List (NestedKey × Addr × V)}, ds.map toNK = ps.map (fun p => some p.1) → Reps S ρ H ds vs → Reps S' ρ' H ds vs
  | [], _, _, _, .nil => .nil
  | d :: ds, _, [], e, _ => by cases e
  | d :: ds, _, p :: ps, e, .cons r t => by
    rw [List.map_cons, List.map_cons] at e
    injection e with e1 e2
    exact .cons (toNK_rep hK e1 r) (toNK_reps hK e2 t)
theorem KvN.split {S : Sy} {ρ : Own} {H : Hp} : ∀ {d : List (Val × Val)} {v : List (NestedKey × Addr × V)}, KvN S ρ H d v → Reps S ρ H (d.map (·.1)) (v.map (fun p => V.ref p.2.1)) ∧ (d.map (·.1)).map toNK = v.map (fun p => some p.1) ∧ Reps S ρ H (d.map (·.2)) (v.map (·.2.2))
  | _, _, .nil => ⟨.nil, rfl, .nil⟩
  | _, _, .cons r e q t => ⟨.cons r t.split.1, by simp [t.split.2.1, e], .cons q t.split.2.2⟩
theorem KvN.zip {S : Sy} {ρ : Own} {H : Hp} : ∀ {ks ds : List Val} {ps : List (NestedKey × Addr × V)}, Reps S ρ H ks (ps.map (fun p => V.ref p.2.1)) → ks.map toNK = ps.map (fun p => some p.1) → Reps S ρ H ds (ps.map (·.2.2)) → KvN S ρ H (ks.zip ds) ps
  | [], _, [], _, _, _ => .nil
  | k :: ks, _, [], _, e, _ => by cases e
  | [], _, p :: ps, _, e, _ => by cases e
  | k :: ks, [], p :: ps, _, _, r => by cases r
  | k :: ks, d :: ds, p :: ps, .cons r1 t1, e, .cons r2 t2 => by
    rw [List.map_cons, List.map_cons] at e
    injection e with e1 e2
    exact .cons r1 e1 r2 (KvN.zip t1 e2 t2)
def undFs (n : Nat) : List (Nat × Val) → Bool
  | [] => true
  | (_, x) :: xs => x.und n && undFs n xs
def Ob.und (n : Nat) : Ob → Bool
  | .lst xs => undL n xs
  | .fro _ => true
  | .dcK kvs => undKv n kvs
  | .dcT kvs => undKv n kvs
  | .dcL kvs => undKv n kvs
  | .dcM kvs => undKv n kvs
  | .ins _ fs => undFs n fs
/-- the first n things of the heap name one another alone -/
def shut (n : Nat) : Nat → Hea → Option Hea
  | 0, _ => some []
  | _ + 1, [] => none
  | k + 1, o :: h => if o.und n = true then (shut n k h).map (o :: ·) else none
theorem Sub.cut {ρ ρ' : Own} (s : Sub ρ ρ') {i : Nat} {a : Addr} (hi : Nat.blt i ρ.nm.length = true) (e : ρ'.nm[i]? = some a) : ρ.nm[i]? = some a := by
  have lt : i < ρ.nm.length := Nat.le_of_ble_eq_true hi
  have := s i _ (List.getElem?_eq_getElem lt)
  rw [e] at this
  cases this
  exact List.getElem?_eq_getElem lt
/-- ρ' has more names than ρ -/
structure Less (ρ ρ' : Own) : Prop where
  sub : Sub ρ ρ'
  hd : ρ'.hd = ρ.hd
theorem Less.fz {ρ ρ' : Own} (s : Less ρ ρ') {a : Addr} (f : Fz ρ' a) : Fz ρ a := ⟨fun i z => f.1 i (s.sub _ _ z), by rw [← s.hd]; exact f.2⟩
mutual
theorem Rep.cut {S : Sy} {ρ ρ' : Own} {H : Hp} (s : Less ρ ρ') : ∀ {d : Val} {v : V}, d.und ρ.nm.length = true → Rep S ρ' H d v → Rep S ρ H d v
  | _, _, _, .non => .non
  | _, _, _, .bl b => .bl b
  | _, _, _, .int i => .int i
  | _, _, _, .str z => .str z
  | _, _, h, .tup q r => .tup q (Reps.cut s (by simpa only [Val.und] using h) r)
  | _, _, h, .lst f q r => .lst (s.fz f) q (Reps.cut s (by simpa only [Val.und] using h) r)
  | _, _, h, .dicK f q e1 e2 r => .dicK (s.fz f) q e1 e2 (Reps.cut s (by simpa only [Val.und] using h) r)
  | _, _, h, .dicT f q e1 e2 r e3 r2 => .dicT (s.fz f) q e1 e2 (toNK_reps rfl e2 r) e3 (Reps.cut s (by simpa only [Val.und] using h) r2)
  | _, _, h, .obj f q e1 e2 r => .obj (s.fz f) q e1 e2 (Reps.cut s (by simpa only [Val.und] using h) r)
  | _, _, h, .ref q => .ref (s.sub.cut (by simpa only [Val.und] using h) q)
  | _, _, h, .exn h1 h2 r => .exn h1 h2 (Rep.cut s (by simpa only [Val.und] using h) r)
theorem Reps.cut {S : Sy} {ρ ρ' : Own} {H : Hp} (s : Less ρ ρ') : ∀ {d : List Val} {v : List V}, undL ρ.nm.length d = true → Reps S ρ' H d v → Reps S ρ H d v
  | _, _, _, .nil => .nil
  | _, _, h, .cons r t => by
    simp only [undL, Bool.and_eq_true] at h
    exact .cons (Rep.cut s h.1 r) (Reps.cut s h.2 t)
end
theorem KvR.cut {S : Sy} {ρ ρ' : Own} {H : Hp} {κ : Type} {kd : κ → Val} (s : Less ρ ρ') : ∀ {d : List (Val × Val)} {v : List (κ × V)}, undKv ρ.nm.length d = true → KvR S ρ' H kd d v → KvR S ρ H kd d v
  | _, _, _, .nil => .nil
  | _, _, h, .cons r t => by
    simp only [undKv, Bool.and_eq_true] at h
    exact .cons (r.cut s h.1) (KvR.cut s h.2 t)
theorem KvN.cut {S : Sy} {ρ ρ' : Own} {H : Hp} (s : Less ρ ρ') : ∀ {d : List (Val × Val)} {v : List (NestedKey × Addr × V)}, undKv ρ.nm.length d = true → KvN S ρ' H d v → KvN S ρ H d v
  | _, _, _, .nil => .nil
  | _, _, h, .cons r e q t => by
    simp only [undKv, Bool.and_eq_true] at h
    exact .cons (toNK_rep rfl e r) e (q.cut s h.1) (KvN.cut s h.2 t)
theorem FsR.cut {S : Sy} {ρ ρ' : Own} {H : Hp} (s : Less ρ ρ') : ∀ {d : List (Nat × Val)} {v : List (Str × V)}, undFs ρ.nm.length d = true → FsR S ρ' H d v → FsR S ρ H d v
  | _, _, _, .nil => .nil
  | _, _, h, .cons r t => by
    simp only [undFs, Bool.and_eq_true] at h
    exact .cons (r.cut s h.1) (FsR.cut s h.2 t)
theorem ObR.cut {S : Sy} {ρ ρ' : Own} {H : Hp} (s : Less ρ ρ') {o : Ob} {a : Addr} (h : o.und ρ.nm.length = true) (r : ObR S ρ' H o a) : ObR S ρ H o a := by
  cases r with
  | lst h1 h2 => exact .lst h1 (h2.cut s h)
  | fro h1 => exact .fro h1
  | dcK h1 h2 => exact .dcK h1 (h2.cut s h)
  | dcT h1 h2 => exact .dcT h1 (h2.cut s h)
  | dcL h1 h2 => exact .dcL h1 (h2.cut s h)
  | dcM h1 h2 => exact .dcM h1 (h2.cut s h)
  | ins h1 h2 => exact .ins h1 (h2.cut s h)
theorem shut_at {n : Nat} : ∀ {k : Nat} {h g : Hea}, shut n k h = some g → g.length = k ∧ ∀ (i : Nat) (o : Ob), g[i]? = some o → h[i]? = some o ∧ o.und n = true
  | 0, h, g, e => by
    cases h <;> (cases e; exact ⟨rfl, fun i o q => by simp at q⟩)
  | k + 1, [], g, e => by cases e
  | k + 1, o :: h, g, e => by
    unfold shut at e
    split at e
    · rename_i hb
      cases q : shut n k h with
      | none => rw [q] at e; cases e
      | some g2 =>
        rw [q] at e
        cases e
        obtain ⟨l, z⟩ := shut_at q
        refine ⟨by simp [l], fun i o' e' => ?_⟩
        cases i with
        | zero => simp at e'; subst e'; exact ⟨rfl, hb⟩
        | succ i => simp at e' ⊢; exact z i o' e'
    · cases e
theorem Rel.cut {S : Sy} {ρ ρ' : Own} {H H' : Hp} {h h' g : Hea} (R : Rel S ρ h H) (s : Less ρ ρ') (R' : Rel S ρ' h' H') (e : shut h.length h.length h' = some g) : Rel S ρ g H' := by
  obtain ⟨l, z⟩ := shut_at e
  have hl := R.len
  refine ⟨by omega, R.inj, fun i o a e1 e2 => ?_, fun a m => ?_⟩
  · obtain ⟨e3, e4⟩ := z i o e1
    exact (R'.ob i o a e3 (s.sub _ _ e2)).cut s (by rw [← hl]; exact e4)
  · obtain ⟨h1, h2⟩ := R'.hid a (by rw [s.hd]; exact m)
    exact ⟨h1, fun i z => h2 i (s.sub _ _ z)⟩
def frz : Nat → Nat → Hea → Val → Option Val
  | _, _, _, .non => some .non
  | _, _, _, .bl b => some (.bl b)
  | _, _, _, .int i => some (.int i)
  | _, _, _, .str x => some (.str x)
  | 0, _, _, _ => none
  | f + 1, n, h, .tup xs => (mapO (frz f n h) xs).map .tup
  | f + 1, n, h, .lst xs => (mapO (frz f n h) xs).map .lst
  | f + 1, n, h, .dic t ks vs => (mapO (frz f n h) vs).map (.dic t ks)
  | f + 1, n, h, .obj c ns vs => (mapO (frz f n h) vs).map (.obj c ns)
  | f + 1, n, h, .exn c d => (frz f n h d).map (.exn c)
  | f + 1, n, h, .ref i => if Nat.blt i n = true then some (.ref i) else match h[i]? with
    | some (.lst xs) => (mapO (frz f n h) xs).map .lst
    | some (.dcK kvs) => (mapO (frz f n h) (kvs.map (·.2))).map (.dic false (kvs.map (·.1)))
    | some (.dcT kvs) => (mapO (frz f n h) (kvs.map (·.2))).map (.dic true (kvs.map (·.1)))
    | some (.dcL kvs) => (mapO (frz f n h) (kvs.map (·.2))).map (.dic false (kvs.map (·.1)))
    | some (.dcM kvs) => (mapO (frz f n h) (kvs.map (·.2))).map (.dic true (kvs.map (·.1)))
    | some (.ins c fs) => (mapO (frz f n h) (fs.map (·.2))).map (.obj c (fs.map (·.1)))
    | _ => none
theorem KvR.split {S : Sy} {ρ : Own} {H : Hp} {κ : Type} {kd : κ → Val} : ∀ {d : List (Val × Val)} {v : List (κ × V)}, KvR S ρ H kd d v → d.map (·.1) = v.map (fun p => kd p.1) ∧ Reps S ρ H (d.map (·.2)) (v.map (·.2))
  | _, _, .nil => ⟨rfl, .nil⟩
  | _, _, .cons r t => ⟨by simp [t.split.1], .cons r t.split.2⟩
theorem FsR.split {S : Sy} {ρ : Own} {H : Hp} : ∀ {d : List (Nat × Val)} {v : List (Str × V)}, FsR S ρ H d v → v.map (·.1) = (d.map (·.1)).map S.nm ∧ Reps S ρ H (d.map (·.2)) (v.map (·.2))
  | _, _, .nil => ⟨rfl, .nil⟩
  | _, _, .cons r t => ⟨by simp [t.split.1], .cons r t.split.2⟩
section
variable {S : Sy} {ρ ρ' : Own} {H : Hp} {h : Hea}
theorem mapO_frz {n f : Nat} (ih : ∀ (d d' : Val) (v : V), Rep S ρ' H d v → frz f n h d = some d' → Rep S ρ H d' v) : ∀ (xs ys : List Val) (vs : List V), Reps S ρ' H xs vs → mapO (frz f n h) xs = some ys → Reps S ρ H ys vs
  | [], _, _, .nil, e => by cases e; exact .nil
  | x :: xs, _, _, .cons r t, e => by
    unfold mapO at e
    split at e
    · rename_i y ys h1 h2
      cases e
      exact .cons (ih _ _ _ r h1) (mapO_frz ih xs _ _ t h2)
    · cases e
theorem map_some {α β : Type} {o : Option α} {g : α → β} {b : β} (e : o.map g = some b) : ∃ a, o = some a ∧ b = g a := by
  cases o with
  | none => cases e
  | some a => cases e; exact ⟨a, rfl, rfl⟩
theorem frz_ok (s : Less ρ ρ') (R : Rel S ρ' h H) : ∀ (f : Nat) (d d' : Val) (v : V), Rep S ρ' H d v → frz f ρ.nm.length h d = some d' → Rep S ρ H d' v := by
  intro f
  induction f with
  | zero =>
    intro d d' v r e
    cases r <;> simp only [frz] at e <;> cases e <;> constructor
  | succ f ih =>
    intro d d' v r e
    cases r with
    | non => simp only [frz] at e; cases e; exact .non
    | bl b => simp only [frz] at e; cases e; exact .bl b
    | int b => simp only [frz] at e; cases e; exact .int b
    | str b => simp only [frz] at e; cases e; exact .str b
    | tup q t =>
      simp only [frz] at e
      obtain ⟨ys, e1, rfl⟩ := map_some e
      exact .tup q (mapO_frz ih _ _ _ t e1)
    | lst w q t =>
      simp only [frz] at e
      obtain ⟨ys, e1, rfl⟩ := map_some e
      exact .lst (s.fz w) q (mapO_frz ih _ _ _ t e1)
    | dicK w q e2 e3 t =>
      simp only [frz] at e
      obtain ⟨ys, e1, rfl⟩ := map_some e
      exact .dicK (s.fz w) q e2 e3 (mapO_frz ih _ _ _ t e1)
    | dicT w q e2 e3 t e4 t2 =>
      simp only [frz] at e
      obtain ⟨ys, e1, rfl⟩ := map_some e
      exact .dicT (s.fz w) q e2 e3 (toNK_reps rfl e3 t) e4 (mapO_frz ih _ _ _ t2 e1)
    | obj w q e2 e3 t =>
      simp only [frz] at e
      obtain ⟨ys, e1, rfl⟩ := map_some e
      exact .obj (s.fz w) q e2 e3 (mapO_frz ih _ _ _ t e1)
    | exn h1 h2 r =>
      simp only [frz] at e
      obtain ⟨y, e1, rfl⟩ := map_some e
      exact .exn h1 h2 (ih _ _ _ r e1)
    | @ref i a ea =>
      simp only [frz] at e
      split at e
      · rename_i hb
        cases e
        exact .ref (s.sub.cut hb ea)
      · rename_i hb
        have fa : Fz ρ a := by
          refine ⟨fun j z => ?_, fun m => ?_⟩
          · have := R.inj j i a (s.sub _ _ z) ea
            subst this
            exact hb (Nat.ble_eq_true_of_le (List.getElem?_eq_some_iff.mp z).1)
          · exact (R.hid a (by rw [s.hd]; exact m)).2 i ea
        split at e
        · rename_i xs hx
          obtain ⟨ys, e1, rfl⟩ := map_some e
          have o := R.ob i _ a hx ea
          cases o with
          | lst h1 h2 => exact .lst fa h1 (mapO_frz ih _ _ _ h2 e1)
        · rename_i xs hx
          obtain ⟨ys, e1, rfl⟩ := map_some e
          have o := R.ob i _ a hx ea
          cases o with
          | dcK h1 h2 => exact .dicK fa (.inl h1) h2.split.1 rfl (mapO_frz ih _ _ _ h2.split.2 e1)
        · rename_i xs hx
          obtain ⟨ys, e1, rfl⟩ := map_some e
          have o := R.ob i _ a hx ea
          cases o with
          | dcT h1 h2 => exact .dicT fa (.inl h1) rfl h2.split.2.1 (toNK_reps rfl h2.split.2.1 h2.split.1) rfl (mapO_frz ih _ _ _ h2.split.2.2 e1)
        · rename_i xs hx
          obtain ⟨ys, e1, rfl⟩ := map_some e
          have o := R.ob i _ a hx ea
          cases o with
          | dcL h1 h2 => exact .dicK fa (.inr ⟨_, h1⟩) h2.split.1 rfl (mapO_frz ih _ _ _ h2.split.2 e1)
        · rename_i xs hx
          obtain ⟨ys, e1, rfl⟩ := map_some e
          have o := R.ob i _ a hx ea
          cases o with
          | dcM h1 h2 => exact .dicT fa (.inr ⟨_, h1⟩) rfl h2.split.2.1 (toNK_reps rfl h2.split.2.1 h2.split.1) rfl (mapO_frz ih _ _ _ h2.split.2.2 e1)
        · rename_i c fs hx
          obtain ⟨ys, e1, rfl⟩ := map_some e
          have o := R.ob i _ a hx ea
          cases o with
          | ins h1 h2 => exact .obj fa h1 h2.split.1 rfl (mapO_frz ih _ _ _ h2.split.2 e1)
        · cases e
end
/-- the end of a call: garbage is dropped, what is given back is changed no more -/
def fin (h : Hea) (d : Val) (h' : Hea) : Res Val := if h'.length = h.length then .ok d h' else match shut h.length h.length h' with
  | none => .ok d h'
  | some g => match frz 40 h.length h' d with
    | some d' => .ok d' g
    | none => .ok d h'
/-- the end of a call that gives back a new thing to be changed -/
def finK (h : Hea) (d : Val) (h' : Hea) : Res Val := if h'.length = h.length then .ok d h' else match shut h.length h.length h' with
  | none => .ok d h'
  | some g => match d with
    | .ref i => match h'[i]? with
      | some o => if o.und h.length = true ∧ h.length ≤ i then .ok (.ref h.length) (g ++ [o]) else .ok d h'
      | _ => .ok d h'
    | _ => .ok d h'
def FinOk (fn : Hea → Val → Hea → Res Val) : Prop := ∀ (S : Sy) (ρ : Own) (H : Hp) (h h' : Hea) (d : Val) (Q : VK) (W : XK), Rel S ρ h H → Aft S ρ H (fn h d h') Q W → Aft S ρ H (.ok d h') Q W
theorem Go.less {S : Sy} {ρ ρ1 : Own} {H H1 : Hp} (s : Go S ρ H ρ1 H1) : Less ρ ρ1 := ⟨s.sub, s.hd⟩
theorem Go.drop {S : Sy} {ρ ρ1 : Own} {H H1 : Hp} (s : Go S ρ H ρ1 H1) : Go S ρ H ρ H1 := ⟨.rfl, s.kp, s.fr, fun i _ z => .inl ⟨i, z⟩, Eq.refl _⟩
theorem fin_ok : FinOk fin := by
  intro S ρ H h h' d Q W R a
  unfold fin at a
  have hl := R.len
  split at a
  · exact a
  · split at a
    · exact a
    · rename_i g hg
      split at a
      · rename_i d' hd
        intro ρ1 v H1 s R1 r
        exact a ρ v H1 s.drop (R.cut s.less R1 hg) (frz_ok s.less R1 _ _ _ _ r (by rw [← hl]; exact hd))
      · exact a
section
variable {S : Sy} {ρ ρ' : Own} {H : Hp} {i : Nat} {p : Addr}
theorem Less.fzA (s : Less ρ ρ') (ep : ρ'.nm[i]? = some p) {a : Addr} (f : Fz ρ' a) : Fz (ρ.add p) a := (s.fz f).add fun z => f.1 i (by rw [z]; exact ep)
mutual
theorem Rep.toAdd (s : Less ρ ρ') (ep : ρ'.nm[i]? = some p) : ∀ {d : Val} {v : V}, d.und ρ.nm.length = true → Rep S ρ' H d v → Rep S (ρ.add p) H d v
  | _, _, _, .non => .non
  | _, _, _, .bl b => .bl b
  | _, _, _, .int i => .int i
  | _, _, _, .str z => .str z
  | _, _, h, .tup q r => .tup q (Reps.toAdd s ep (by simpa only [Val.und] using h) r)
  | _, _, h, .lst f q r => .lst (s.fzA ep f) q (Reps.toAdd s ep (by simpa only [Val.und] using h) r)
  | _, _, h, .dicK f q e1 e2 r => .dicK (s.fzA ep f) q e1 e2 (Reps.toAdd s ep (by simpa only [Val.und] using h) r)
  | _, _, h, .dicT f q e1 e2 r e3 r2 => .dicT (s.fzA ep f) q e1 e2 (toNK_reps rfl e2 r) e3 (Reps.toAdd s ep (by simpa only [Val.und] using h) r2)
  | _, _, h, .obj f q e1 e2 r => .obj (s.fzA ep f) q e1 e2 (Reps.toAdd s ep (by simpa only [Val.und] using h) r)
  | _, _, h, .ref q => .ref (Sub.app _ _ (s.sub.cut (by simpa only [Val.und] using h) q))
  | _, _, h, .exn h1 h2 r => .exn h1 h2 (Rep.toAdd s ep (by simpa only [Val.und] using h) r)
theorem Reps.toAdd (s : Less ρ ρ') (ep : ρ'.nm[i]? = some p) : ∀ {d : List Val} {v : List V}, undL ρ.nm.length d = true → Reps S ρ' H d v → Reps S (ρ.add p) H d v
  | _, _, _, .nil => .nil
  | _, _, h, .cons r t => by
    simp only [undL, Bool.and_eq_true] at h
    exact .cons (Rep.toAdd s ep h.1 r) (Reps.toAdd s ep h.2 t)
end
theorem KvR.toAdd {κ : Type} {kd : κ → Val} (s : Less ρ ρ') (ep : ρ'.nm[i]? = some p) : ∀ {d : List (Val × Val)} {v : List (κ × V)}, undKv ρ.nm.length d = true → KvR S ρ' H kd d v → KvR S (ρ.add p) H kd d v
  | _, _, _, .nil => .nil
  | _, _, h, .cons r t => by
    simp only [undKv, Bool.and_eq_true] at h
    exact .cons (r.toAdd s ep h.1) (KvR.toAdd s ep h.2 t)
theorem KvN.toAdd (s : Less ρ ρ') (ep : ρ'.nm[i]? = some p) : ∀ {d : List (Val × Val)} {v : List (NestedKey × Addr × V)}, undKv ρ.nm.length d = true → KvN S ρ' H d v → KvN S (ρ.add p) H d v
  | _, _, _, .nil => .nil
  | _, _, h, .cons r e q t => by
    simp only [undKv, Bool.and_eq_true] at h
    exact .cons (toNK_rep rfl e r) e (q.toAdd s ep h.1) (KvN.toAdd s ep h.2 t)
theorem FsR.toAdd (s : Less ρ ρ') (ep : ρ'.nm[i]? = some p) : ∀ {d : List (Nat × Val)} {v : List (Str × V)}, undFs ρ.nm.length d = true → FsR S ρ' H d v → FsR S (ρ.add p) H d v
  | _, _, _, .nil => .nil
  | _, _, h, .cons r t => by
    simp only [undFs, Bool.and_eq_true] at h
    exact .cons (r.toAdd s ep h.1) (FsR.toAdd s ep h.2 t)
theorem ObR.toAdd (s : Less ρ ρ') (ep : ρ'.nm[i]? = some p) {o : Ob} {a : Addr} (h : o.und ρ.nm.length = true) (r : ObR S ρ' H o a) : ObR S (ρ.add p) H o a := by
  cases r with
  | lst h1 h2 => exact .lst h1 (h2.toAdd s ep h)
  | fro h1 => exact .fro h1
  | dcK h1 h2 => exact .dcK h1 (h2.toAdd s ep h)
  | dcT h1 h2 => exact .dcT h1 (h2.toAdd s ep h)
  | dcL h1 h2 => exact .dcL h1 (h2.toAdd s ep h)
  | dcM h1 h2 => exact .dcM h1 (h2.toAdd s ep h)
  | ins h1 h2 => exact .ins h1 (h2.toAdd s ep h)
end
theorem finK_ok : FinOk finK := by
  intro S ρ H h h' d Q W R a
  unfold finK at a
  have hl := R.len
  split at a
  · exact a
  · split at a
    · exact a
    · rename_i g hg
      split at a
      · rename_i i
        split at a
        · rename_i o ho
          split at a
          · rename_i hu
            intro ρ1 v H1 s R1 r
            obtain ⟨p, rfl, ep⟩ := r.ref_
            have off : Off ρ p := fun j z => by
              have := R1.inj j i p (s.sub _ _ z) ep
              subst this
              have := (List.getElem?_eq_some_iff.mp z).1
              omega
            have hp : H p = none := by
              rcases s.nw i p ep with ⟨j, z⟩ | z
              · exact (off j z).elim
              · exact z
            have ob := R1.ob i _ p ho ep
            have Rb := R.cut s.less R1 hg
            have hnh : p ∉ ρ.hd := (R.fz hp).2
            -- nothing else stands for p
            have lm : ∀ {o : Ob} {a : Addr}, o.und ρ.nm.length = true → ObR S ρ1 H1 o a → ObR S (ρ.add p) H1 o a := by
              intro o a hu r
              exact ObR.toAdd s.less ep hu r
            exact a (ρ.add p) _ H1 (s.drop.adopt hp) (Rel.grow Rb.len Rb.inj off (fun j o' b e1 e2 => by
              obtain ⟨e3, e4⟩ := (shut_at hg).2 j o' e1
              exact lm (by rw [← hl]; exact e4) (R1.ob j o' b e3 (s.sub _ _ e2))) (lm (by rw [← hl]; exact hu.1) ob) Rb.hid hnh) (.ref (by rw [hl]; exact add_at))
          · exact a
        · exact a
      · exact a
def startE (n : Nat) (ds : List Val) : En := ds.map some ++ List.replicate (n - ds.length) none
def runG (fn : Hea → Val → Hea → Res Val) (np ns : Nat) (body : En → Hea → SRes) (ds : List Val) (h : Hea) : Res Val := if ds.length = np then
    (match body (startE ns ds) h with
      | .rt d h' => fn h d h'
      | .nx _ h' => fn h .non h'
      | .exc c d _ h' => if h'.length = h.length then .exc c d h' else (match shut h.length h.length h' with
        | some g => (match frz 40 h.length h' d with
          | some d' => .exc c d' g
          | none => .exc c d h')
        | none => .exc c d h')
      | _ => .stuck)
  else .stuck
abbrev runB := runG fin
abbrev runK := runG finK
def spEv (S : Sy) (cf : List Val → Hea → Res Val) : Sp := fun vs H Q E => ∃ ρ h ds, Rel S ρ h H ∧ Reps S ρ H ds vs ∧ Aft S ρ H (cf ds h) Q E
theorem ER.start {S : Sy} {ρ : Own} {H : Hp} {n : Nat} : ∀ {ds : List Val} {vs : List V}, Reps S ρ H ds vs → ER S ρ H (ds.map some ++ List.replicate n none) (vs.map some ++ List.replicate n none)
  | _, _, .nil => by
    induction n with
    | zero => exact .nil
    | succ n ih => exact .cons (fun x e => nomatch e) ih
  | _, _, .cons r t => .cons (fun x e => ⟨_, rfl, by cases e; exact r⟩) (ER.start t)
theorem runB_ok {S : Sy} {fn : Hea → Val → Hea → Res Val} (fo : FinOk fn) {np : Nat} {N : List Str} {fb : En → Hea → SRes} {vs : List V} {H : Hp} {Q : VK} {E : XK} (q : spEv S (runG fn np N.length fb) vs H Q E) :
    vs.length = np ∧ tS S (fun c d _ H' => E c d H') fb { nx := fun _ H' => Q .non H', rt := Q } (L2.start N vs) H := by
  obtain ⟨ρ, h, ds, R, r, a⟩ := q
  unfold runG at a
  split at a
  · rename_i hl
    refine ⟨by rw [← r.length]; exact hl, ρ, startE N.length ds, h, R, ?_, ?_⟩
    · unfold startE L2.start
      rw [← r.length]
      exact ER.start r
    · revert a
      cases fb (startE N.length ds) h with
      | nx e h' => exact fun a ρ1 σ1 H1 s R1 E1 => fo _ _ _ _ _ _ _ _ R a ρ1 .non H1 s R1 .non
      | rt d h' => exact fun a ρ1 v H1 s R1 r1 => fo _ _ _ _ _ _ _ _ R a ρ1 v H1 s R1 r1
      | bk e h' => exact fun a => a.elim
      | ct e h' => exact fun a => a.elim
      | stuck => exact fun a => a
      | exc c d e h' =>
        intro a ρ1 v σ1 H1 dx s R1 r1 E1 x
        dsimp only at a
        split at a
        · exact a ρ1 v H1 dx s R1 r1 x
        · split at a
          · rename_i g hg
            split at a
            · rename_i d' hd
              exact a ρ v H1 dx s.drop (R.cut s.less R1 hg) (frz_ok s.less R1 _ _ _ _ r1 (by rw [← R.len]; exact hd)) x
            · exact a ρ1 v H1 dx s R1 r1 x
          · exact a ρ1 v H1 dx s R1 r1 x
  · exact a.elim
/-- a def keeps its promise -/
theorem fn_ok {P : Program} {w : World} {K : PySem.W.Frag} {mg : Str → Option Value} {base : Heap} {T : Tb} {x qual : Str} {st : Stmt} {f : Addr} {fd : FuncData} {N ps : List Str} {k : Nat} {fb : En → Hea → SRes}
    {fn : Hea → Val → Hea → Res Val} (fo : FinOk fn) (F : Fun K x qual st f fd) (Sc : FnScope N ps (defScope st))
    (hb : ∀ (cdv : Value) (A : Around) (outer : List Env) (s : Shared) (H : Hp) (E : XK), Room k (A.deeper (PyProof.Rows.envOfC qual (defScope st) s.heap.objs.size f cdv)) →
      SSs T (cxOf (L2.CX P w) P w K mg base N qual (defScope st) f cdv A outer s H E) (fun c d _ H' => E c d H') (defBody st) fb) :
    FnOk P w K mg base (L2.CX P w) (k + 1) f fd ps (spEv ⟨K, T.ca, T.nm, T.fld, P, w, T.ex⟩ (runG fn ps.length N.length fb)) :=
  F.okX Sc (fun vs H Q E q => (runB_ok fo q).1) fun cdv A outer s H vs Q E hr q => ⟨_, hb cdv A outer s H E hr, (runB_ok fo q).2⟩
def eCall (cf : List Val → Hea → Res Val) (g : En → Hea → Res (List Val)) : En → Hea → Res Val := fun e h => (g e h).bind cf
section
variable {T : Tb} {X : Cx} {W : WX} {x : Str} {f : Addr} {fd : FuncData} {ps : List Str} {k : Nat} {cf : List Val → Hea → Res Val} {e : Expr} {es : List Expr} {g : En → Hea → Res (List Val)} {p pos : Pos}
theorem se_call (F : FnOk X.prog X.w X.K X.mg X.base (L2.CX X.prog X.w) k f fd ps (spEv (sy T X) cf)) (hr : Room k X.A) (hg : Gl X x) (hm : X.mg x = some (.ref f)) (hk : PySem.W.keepIn X.K (.ref f) = true) (hb : Binds X.K fd ps []) (tk : Takes X W)
    (ha : SA T X W (e :: es) g) (hdb : (x == ("__debug__" : Str)) = false := by decide) (he : starEach (e :: es) X.env = (false, eval e X.env) :: starEach es X.env := by rfl) (hpl : (backTo pos (starEach es X.env)).any (·.1) = false := by rfl) :
    SE T X W (.Call (.Name x p) (e :: es) [] pos) (eCall cf g) :=
  (pe_callS (E := fun σ => WE W σ) F hr hg hm hk hb (fun σ => passAt tk σ) ha hdb he hpl).imp fun σ H Q q => by
    obtain ⟨ρ, e, h, R, E, a⟩ := q
    exact ⟨ρ, e, h, R, E, (AftA.bind a).mono fun vs H1 ⟨ρ1, ds, h1, s, R1, r1, a1⟩ => ⟨ρ1, h1, ds, R1, r1, a1⟩⟩
end
end Lad
end
section
set_option maxRecDepth 100000
set_option maxHeartbeats 1000000
namespace Lad
open PySem L2
section
variable {T : Tb} {X : Cx} {W : WX} {a b c : Expr} {f1 f2 f3 : En → Hea → Res Val} {pos : Pos}
theorem se_chain2 {op op' : CmpOp} {g g' : Hea → Val → Val → Option Val} (ho : OpR X (compareOp op) (rB (sy T X) g)) (ho' : OpR X (compareOp op') (rB (sy T X) g')) (ha : SE T X W a f1) (hb : SE T X W b f2) (hc : SE T X W c f3)
    (hm : lastMarks [op, op'] [b, c] = false := by with_unfolding_all rfl) : SE T X W (.Compare a [op, op'] [b, c] pos) (eChain g g' f1 f2 f3) := (pe_chain ho ho' ha hb hc hm).imp fun σ H Q q => chain_imp q
theorem st_chain2 {op op' : CmpOp} {g g' : Hea → Val → Val → Option Val} (ho : OpR X (compareOp op) (rB (sy T X) g)) (ho' : OpR X (compareOp op') (rB (sy T X) g')) (ha : SE T X W a f1) (hb : SE T X W b f2) (hc : SE T X W c f3)
    (hm : lastMarks [op, op'] [b, c] = false := by with_unfolding_all rfl) : ST T X W (.Compare a [op, op'] [b, c] pos) (eChain g g' f1 f2 f3) := (pt_chain ho ho' ha hb hc hm).imp fun σ H Q q => chain_imp q
end
theorem u65 {A : Around} {k : Nat} (hr : Room k A) : A.units + 65 < cLine := by have := hr.un; omega
/-- a built-in class by its name -/
theorem ty_of {X : Cx} {x : Str} {n : String} {pos : Pos} (hm : X.mg x = none) (hv : bootBuiltins x = some (.type n)) (hg : Gl X x := by rfl) (hn : x ≠ "__name__" := by decide) (hd : (x == ("__debug__" : Str)) = false := by decide) : PE X (.Name x pos) (tC (.ty n)) := pe_bltn hg hm hv rfl hn hd
section
variable {T : Tb} {X : Cx} {W : WX} {x : Str} {id : String} {n : String} {a e : Expr} {es : List Expr} {f : En → Hea → Res Val} {g : En → Hea → Res (List Val)} {p pos : Pos}
/-- a built-in def of plain arguments -/
theorem se_cb {r : Hea → List Val → Option Val} (hc : CallR X (.builtin id) (rC (sy T X) r)) (hm : X.mg x = none) (hv : bootBuiltins x = some (.builtin id)) (ha : SA T X W (e :: es) g) (hg : Gl X x := by rfl) (hn : x ≠ "__name__" := by decide) (hdb : (x == ("__debug__" : Str)) = false := by decide)
    (he : starEach (e :: es) X.env = (false, eval e X.env) :: starEach es X.env := by rfl) (hpl : (backTo pos (starEach es X.env)).any (·.1) = false := by rfl) : SE T X W (.Call (.Name x p) (e :: es) [] pos) (eCB r g) :=
  (pe_callB hc hg hm hv ha hn hdb he hpl).imp fun σ H Q q => cb_imp q
theorem se_ct {r : Hea → List Val → Option Val} (hc : CallR X (.type n) (rC (sy T X) r)) (hm : X.mg x = none) (hv : bootBuiltins x = some (.type n)) (ha : SA T X W (e :: es) g) (hg : Gl X x := by rfl) (hn : x ≠ "__name__" := by decide) (hdb : (x == ("__debug__" : Str)) = false := by decide)
    (he : starEach (e :: es) X.env = (false, eval e X.env) :: starEach es X.env := by rfl) (hpl : (backTo pos (starEach es X.env)).any (·.1) = false := by rfl) : SE T X W (.Call (.Name x p) (e :: es) [] pos) (eCB r g) :=
  (pe_callTy hc hg hm hv ha hn hdb he hpl).imp fun σ H Q q => cb_imp q
/-- of a list or tuple that is a value; of a list made for it -/
theorem se_it {r : List Val → Option Val} (hc : CallR X (.builtin id) (rIt (sy T X) r)) (hm : X.mg x = none) (hv : bootBuiltins x = some (.builtin id)) (ha : SE T X W a f) (hg : Gl X x := by rfl) (hn : x ≠ "__name__" := by decide) (hdb : (x == ("__debug__" : Str)) = false := by decide)
    (he : starEach [a] X.env = (false, eval a X.env) :: starEach [] X.env := by rfl) : SE T X W (.Call (.Name x p) [a] [] pos) (eIt r f) :=
  (pe_callB hc hg hm hv (pa_cons ha pa_nil he) hn hdb he rfl).imp fun σ H Q q => it_imp q
theorem se_ilL {r : List Val → Option Val} (hc : CallR X (.builtin id) (rIl (sy T X) r)) (hm : X.mg x = none) (hv : bootBuiltins x = some (.builtin id)) (ha : SL T X W a g) (hg : Gl X x := by rfl) (hn : x ≠ "__name__" := by decide) (hdb : (x == ("__debug__" : Str)) = false := by decide)
    (he : starEach [a] X.env = (false, eval a X.env) :: starEach [] X.env := by rfl) : SE T X W (.Call (.Name x p) [a] [] pos) (eItL r g) :=
  (pe_callB hc hg hm hv (pa_cons ha pa_nil he) hn hdb he rfl).imp fun σ H Q q => ilL_imp q
theorem se_tit {r : List Val → Option Val} (hc : CallR X (.type n) (rIt (sy T X) r)) (hm : X.mg x = none) (hv : bootBuiltins x = some (.type n)) (ha : SE T X W a f) (hg : Gl X x := by rfl) (hn : x ≠ "__name__" := by decide) (hdb : (x == ("__debug__" : Str)) = false := by decide)
    (he : starEach [a] X.env = (false, eval a X.env) :: starEach [] X.env := by rfl) : SE T X W (.Call (.Name x p) [a] [] pos) (eIt r f) :=
  (pe_callTy hc hg hm hv (pa_cons ha pa_nil he) hn hdb he rfl).imp fun σ H Q q => it_imp q
/-- list(x): a new list -/
def lOf (f : En → Hea → Res Val) : En → Hea → Res (List Val) := fun e h => (f e h).bind fun d h1 => match itemsOf h1 d with
  | some xs => .ok xs h1
  | none => .stuck
theorem sl_list (hm : X.mg "list" = none) (ha : SE T X W a f) (hg : Gl X "list" := by rfl) (he : starEach [a] X.env = (false, eval a X.env) :: starEach [] X.env := by rfl) : SL T X W (.Call (.Name "list" p) [a] [] pos) (lOf f) :=
  (pe_callTy call_list_of hg hm (by decide +kernel) (pa_cons ha pa_nil he) (he := he) (hpl := rfl)).imp fun σ H Q q => by
    obtain ⟨ρ, e, h, R, E, a⟩ := q
    refine ⟨ρ, e, h, R, E, (AftL.bind1 a).mono fun v H1 ⟨ρ1, d, h1, s, R1, r1, a1⟩ => ?_⟩
    split at a1
    · rename_i xs hx
      obtain ⟨p, us, rfl, sq, rr⟩ := items_sq R1 r1 hx
      exact ⟨p, us, rfl, sq.symm.imp id StT.sq, fun l n => a1.made R1 rr l n⟩
    · exact a1.elim
end
end Lad
end
section
set_option maxRecDepth 100000
set_option maxHeartbeats 2000000
namespace Lad
open PySem PySem.W PySem.Calls PySem.HandSPX
structure MkFacts (nwId inId : String) (tl : List Value) : Prop where
  nw : ∃ Bn inN bmN, ExcBaseFacts Bn nwId inN bmN ∧ tl.contains (.type Bn) = true
  na : tl.contains (.type "AttributeError") = false
  nn : tl.contains (.type "NameError") = false
  ik : builtinKind inId = some .slot
  ir : ∃ B, Manifest.signature? inId = some ⟨.positional, "*", B, .self, [⟨"args", .varPos, false⟩]⟩ ∧ (B != "*") = true
  ip : plainId inId = true
  ie : entryFor table inId = some Builtin.«BaseException.__init__»
theorem MkFacts.of {B nwId inId : String} {tl : List Value} (F : ExcBaseFacts B nwId inId tl) : MkFacts nwId inId tl :=
  ⟨⟨B, inId, tl, F, F.hasB⟩, F.noAttr, F.noName, F.initKind, ⟨B, F.initRow, F.noStar⟩, F.init.plain, F.initEntry⟩
section
variable {prog : Program} {w : World} {A : Around} {E : Value → Shared → Prop} {R : Result → Shared → Prop} {hp : Heap} {g : Array GenState} {dr : Drawn} {tk : Nat} {os : OsState}
variable {nm qn : Str} {C N : Addr} {bs bm bmN : List Value} {hdct : Bool} {sn : List Str} {sub : List Value} {ab : Bool} {col : Option Bool} {dd : Option Addr} {k0 k1 k2 k3 k5 : Option Value} {Bn nwId inN : String}
/-- the class C stands at C; what it stands under -/
abbrev ClsO (hp : Heap) (nm qn : Str) (C N : Addr) (bs bm : List Value) (hdct : Bool) (sn : List Str) (sub : List Value) (ab : Bool) (col : Option Bool) (dd : Option Addr) (k0 k1 k2 k3 k5 : Option Value) (nwId : String) : Prop := hp.get? C = some (excClassObj nm qn C N bs bm hdct sn sub ab col dd k0 k1 k2 k3 k5 nwId)
theorem under {M : Model} {T : String} {b : Bool} {Q : Bool → Shared → Prop} (oC : ClsO hp nm qn C N bs bm hdct sn sub ab col dd k0 k1 k2 k3 k5 nwId) (c : bm.contains (.type T) = b) (q : Q b ⟨hp, g, dr, tk, os⟩) : wpAny M A (isSubtype (.ref C) (.type T)) Q E ⟨hp, g, dr, tk, os⟩ := by
  refine wpAny_isSubtype_exc oC ?_
  rw [List.contains_cons, c]
  exact q
theorem made_new (F : ExcBaseFacts Bn nwId inN bmN) (hB : bm.contains (.type Bn) = true) (nA : bm.contains (.type "AttributeError") = false) (nN : bm.contains (.type "NameError") = false) {us : List Value} (oC : ClsO hp nm qn C N bs bm hdct sn sub ab col dd k0 k1 k2 k3 k5 nwId)
    (q : R (.ok (.ret (.ref (hp.objs.size + 1)))) ⟨(hp.push (kdv_tup us)).push (excO C hp.objs.size), g, dr, tk, os⟩) (hz : us.length ≤ sizeLine) : codeAny (model prog w) A (.builtin nwId ⟨.ref C :: us, []⟩) R ⟨hp, g, dr, tk, os⟩ := by
  have z := F.ends
  refine codeAny_builtinAt F.entry (wpAt_bind ?_)
  refine wpAt_bind (wpAt_stack fun _ _ => wpAt_of_wpAny ?_)
  wp_walk
  refine wpAt_of_wpAny ?_
  rw [F.owner]
  wp_walk using wpAny_madeHere_exc F.canon oC, wpAny_loadPart_at oC, under oC hB, under oC nA, under oC nN
  all_goals (show R _ _; rw [Heap.size_push]; exact q)
theorem made_type (F : ExcBaseFacts Bn nwId inN bmN) (hB : bm.contains (.type Bn) = true) (nA : bm.contains (.type "AttributeError") = false) (nN : bm.contains (.type "NameError") = false) {us : List Value} {fI : Addr} {Q : Fin → Shared → Prop} (oC : ClsO hp nm qn C N bs bm hdct sn sub ab col dd k0 k1 k2 k3 k5 nwId)
    (li : Looks (model prog w) hp (typeLookup (.ref C) "__init__") (some (.ref fI))) (lb : ∀ self, Looks (model prog w) hp (bindSpecial (.ref fI) self) (.ref fI, [self])) (hz : us.length ≤ sizeLine)
    (q : codeAny (model prog w) A (.call (.ref fI) ⟨.ref (hp.objs.size + 1) :: us, []⟩) (fun r s' => match r with | .ok (.ret v) => v = .none ∧ Q (.done (.ret (.ref (hp.objs.size + 1)))) s' | .ok _ => False | .error e => E e s') ⟨(hp.push (kdv_tup us)).push (excO C hp.objs.size), g, dr, tk, os⟩) :
    wpAny (model prog w) A (Builtin.«type.__call__» ⟨.ref C :: us, []⟩) Q E ⟨hp, g, dr, tk, os⟩ := by
  wp_walk using wpAny_loadPart_at oC, wpAny_madeBy_exc oC
  refine codeAny_call_builtin_code (Code.quiet_builtin _ F.quiet) ?_
  have z := F.noStar
  simp only [checkBuiltinCall, F.newKind, F.newSplit, F.newRow]
  wp_walk using wpAny_loadPart_at oC, under oC hB, wpAny_staticBase_exc oC, wpAny_madeBy_exc oC
  refine made_new F hB nA nN oC ?_ hz
  have kp : ∀ b o, hp.get? b = some o → ((hp.push (kdv_tup us)).push (excO C hp.objs.size)).get? b = some o := fun b o e => Heap.get?_push_of_some _ (Heap.get?_push_of_some _ e)
  have oE : ((hp.push (kdv_tup us)).push (excO C hp.objs.size)).get? (hp.objs.size + 1) = some (excO C hp.objs.size) := by heap_get
  have self : ∀ {Q : Bool → Shared → Prop}, Q true ⟨(hp.push (kdv_tup us)).push (excO C hp.objs.size), g, dr, tk, os⟩ → wpAny (model prog w) A (isSubtype (.ref C) (.ref C)) Q E ⟨(hp.push (kdv_tup us)).push (excO C hp.objs.size), g, dr, tk, os⟩ := fun h => wpAny_isSubtype_exc (kp _ _ oC) (by
    rw [show (Value.ref C :: bm).contains (.ref C) = true by simp]; exact h)
  show wpAny _ _ _ _ _ _
  wp_walk using wpAny_loadPart_at oE, self
  refine (li.keeps kp).at (wpAny_holding (wpAny_bind (((lb _).keeps kp).at (wpAny_bind (wpAny_call (codeAny_mono q ?_))))))
  rintro (e | (v | _ | _ | _)) s' h
  · exact h
  · exact h.elim
  · exact h.elim
  · exact h.elim
  · obtain ⟨rfl, h⟩ := h
    wp_walk
    exact h
theorem made_call (F : ExcBaseFacts Bn nwId inN bmN) (hB : bm.contains (.type Bn) = true) (nA : bm.contains (.type "AttributeError") = false) (nN : bm.contains (.type "NameError") = false) {us : List Value} {fI : Addr} (oC : ClsO hp nm qn C N bs bm hdct sn sub ab col dd k0 k1 k2 k3 k5 nwId)
    (li : Looks (model prog w) hp (typeLookup (.ref C) "__init__") (some (.ref fI))) (lb : ∀ self, Looks (model prog w) hp (bindSpecial (.ref fI) self) (.ref fI, [self])) (hz : us.length ≤ sizeLine)
    (q : codeAny (model prog w) (A.under (.builtin "type.__call__" ⟨.ref C :: us, []⟩)) (.call (.ref fI) ⟨.ref (hp.objs.size + 1) :: us, []⟩) (InitBack (hp.objs.size + 1) R) ⟨(hp.push (kdv_tup us)).push (excO C hp.objs.size), g, dr, tk, os⟩) :
    codeAny (model prog w) A (.call (.ref C) ⟨us, []⟩) R ⟨hp, g, dr, tk, os⟩ := by
  have f1 := tc_lookup
  have f2 := tc_bind (.ref C)
  have ty : (⟨hp, g, dr, tk, os⟩ : Shared).TypeIs (.ref C) "type" := ⟨_, oC, rfl⟩
  refine codeAny_of_tree ?_
  show wpAny _ _ (callAny (.ref C) _) _ _ _
  wp_walk using wpAny_loadPart_at oC
  refine ⟨rfl, codeAny_call_builtin_at (Code.quiet_builtin _ (by decide +kernel)) entry_typeCall (wpAny_check_type_call_sub oC (made_type F hB nA nN oC li lb hz (codeAny_mono q ?_)))⟩
  rintro (e | (v | _ | _ | _)) s' h <;> exact h
/-- the bound __init__ of a base, called on a new error -/
theorem init_call {inId : String} {tl : List Value} (FB : MkFacts nwId inId tl) {u x t : Addr} {us : List Value} {Q : Value → Shared → Prop} (oC : ClsO hp nm qn C N bs bm hdct sn sub ab col dd k0 k1 k2 k3 k5 nwId) (ou : hp.get? u = some (kxs_mw inId x)) (ox : hp.get? x = some (excObj C t none .none)) (hz : us.length ≤ sizeLine)
    (q : ∀ h', (∀ b o, b ≠ x → hp.get? b = some o → h'.get? b = some o) → h'.get? x = some (excObj C hp.objs.size none .none) → Q .none ⟨h', g, dr, tk, os⟩) : wpAny (model prog w) A (call (.ref u) us) Q E ⟨hp, g, dr, tk, os⟩ := by
  obtain ⟨B, ir, ib⟩ := FB.ir
  have k := FB.ik
  refine wpAny_call (codeAny_of_tree ?_)
  show wpAny _ A.in1 (callAny (.ref u) ⟨us, []⟩) _ _ _
  simp only [callAny]
  wp_walk
  simp only [ir, k]
  wp_walk
  refine wpAny_onRaise (wpAny_of_eq (check_star_args _ _ _ _ _ _) ?_)
  wp_walk
  refine ⟨plainId_quiet FB.ip _, codeAny_builtin FB.ie ?_⟩
  exact exc_init_tree (cls := .ref C) (t0 := t) (dv := none) (c2 := .none) (c3 := .none) (b4 := .bool false) ox hz fun h' k e _ => q h' k e
end
end Lad
end
section
set_option maxRecDepth 100000
set_option maxHeartbeats 2000000
namespace Lad
open PySem PySem.W PySem.Calls PyProof.Rows PySem.HandSPX
open L2 (defArgs defBody defScope)
def exB (txt fld : Str) (j : Nat) (a1 a2 a3 a4 a5 a6 b1 b2 b3 b4 : Pos) : List Stmt :=
  [.Expr (.Call (.Attribute (.Call (.Name "super" a1) [] [] a2) "__init__" a3) [.Constant (.str txt) j a4] [] a5) a6, .Assign [.Attribute (.Name "self" b1) fld b2] (.Name fld b3) b4]
structure InitOk (st : Stmt) (fld : Str) : Prop where
  body : ∃ txt j a1 a2 a3 a4 a5 a6 b1 b2 b3 b4, defBody st = exB txt fld j a1 a2 a3 a4 a5 a6 b1 b2 b3 b4 ∧ ∀ env : Env, ∃ pl : Sem Bool,
    eval (.Call (.Attribute (.Call (.Name "super" a1) [] [] a2) "__init__" a3) [.Constant (.str txt) j a4] [] a5) env = (do
      let ov ← attributeBase (.Call (.Name "super" a1) [] [] a2) "__init__" env (eval (.Call (.Name "super" a1) [] [] a2) env)
      standAt a3.atName
      let (f, first) ← holding [ov] (getMethod ov "__init__" pl)
      callWith a5 f first (backTo a5 (starEach [.Constant (.str txt) j a4] env)) [])
  par : ∃ an p, ((defArgs st).posonlyargs ++ (defArgs st).args).head? = some { arg := "self", annotation := an, pos := p }
  cell : ∀ x ∈ (defScope st).names, x.2 ≠ .cell
  co : (defScope st).isCoroutine = false
  gen : (defScope st).isGenerator = false
  kind : (defScope st).kind = .function
  ls : (defScope st).names.lookup ("self" : Str) = some .local
  lf : (defScope st).names.lookup fld = some .local
  lsu : (defScope st).names.lookup ("super" : Str) = some .globalImplicit
  lc : (defScope st).names.lookup ("__class__" : Str) = some .free
  ne : fld ≠ "self"
  nd : (fld == ("__debug__" : Str)) = false
/-- what the written part says of the class at C (its __init__ at fI, the cell of its class at cc, its code at cda) -/
structure ExTxt (P : Program) (K : Frag) (st : Stmt) (C fI cc cda : Addr) (fd : FuncData) (B newId initId : String) (bmB : List Value) (fld : Str) : Prop where
  kxs : KxsFacts B initId
  eb : MkFacts newId initId bmB
  sf : StoreFacts B bmB "object.__setattr__" "object"
  ini : InitOk st fld
  ei : excInitIn K C bmB newId = true
  ov : excOver K C bmB = true
  sa : findIn K (.ref C) "__setattr__" = some (some (.builtin "object.__setattr__"))
  tkr : takerIn K C fld = some none
  iC : findIn K (.ref C) "__init__" = some (some (.ref fI))
  tC : typeIn K (.ref fI) = some (.type "function")
  kC : keepIn K (.ref C) = true
  exC : subIn K (.ref C) (.type "BaseException") = some true
  exB : subIn K (.ref C) (.type B) = some true
  tyC : typeIn K (.ref C) = some (.type "type")
  hdC : hasDictIn K C = true
  mro : mroIn K C (.ref C) = some true
  sup : nsIn K mainGlobals "super" = some none
  opq : nsIn K cStatics "thirdparty.any" = some none
  alo : ks_superIn K C C "__init__" = some (some (.builtin initId))
  fn : ∃ (qual : Str) (oc dV kV doc pm ct : Value) (od an : Option Addr) (osl : Array (Option Value)), fd = ksFn "__init__" qual (defArgs st) (defBody st) (defScope st) dV kV doc pm an (.ref cda) ct cc ∧ K.lookup fI = some ⟨oc, od, .func fd, osl⟩ ∧ codeIn K (.ref cda) qual = true
  bnd : ∀ (s : Shared) (x : Addr) (v : Value), BindsTo s fd ⟨[.ref x, v], []⟩ [("self", .ref x), (fld, v)]
  code : ∃ (ccl : Value) (cdd : Option Addr) (vs : Array Value) (ccs : Array (Option Value)) (file : Str) (tf : Tok), K.lookup cda = some ⟨ccl, cdd, .fields vs, ccs⟩ ∧ vs[2]? = some (.str file tf) ∧ ((P.main.file : Str) == file) = true
  clc : ∃ (cl : Value) (cld : Option Addr) (csl : Array (Option Value)), K.lookup cc = some ⟨cl, cld, .cell (some (.ref C)), csl⟩
  top : (P.main.scope.names.lookup ("super" : Str)).isSome = false
/-- what __init__ leaves of a fresh exception at x -/
structure XInit (h h' : Heap) (x C dx t1 : Addr) (fld : Str) (v : Value) : Prop where
  keep : ∀ b o, b ≠ x → h.get? b = some o → h'.get? b = some o
  obj : h'.get? x = some { cls := .ref C, dict := some dx, data := .fields #[.ref t1, .none, .none, .none, .bool false, .none] }
  dbig : h.objs.size ≤ dx
  dne : dx ≠ x
  ns : h'.Ns1 dx (fun y => if y = fld then some v else none)
section
variable {P : Program} {w : World} {A : Around} {E : Value → Shared → Prop} {R : Result → Shared → Prop} {s : Shared} {K : Frag} {mg : Str → Option Value} {st : Stmt} {C fI cc cda : Addr} {fd : FuncData} {B newId initId : String} {bmB : List Value} {fld : Str}
/-- self.f = v on a fresh exception -/
theorem xc_store {x t : Addr} {v : Value} {Q : Unit → Shared → Prop} (T : ExTxt P K st C fI cc cda fd B newId initId bmB fld) (X : K.In s.heap) (hx : s.heap.get? x = some (excObj C t none .none))
    (hq : ∀ h' tk dx, (∀ b o, b ≠ x → s.heap.get? b = some o → h'.get? b = some o) → s.heap.objs.size ≤ dx → dx ≠ x → h'.get? x = some (excObj C t (some dx) .none) → h'.Ns1 dx (fun y => if y = fld then some v else none) → Q () { s with heap := h', toks := tk }) :
    wpAny (model P w) A (setAttr (.ref x) fld v) Q E s := by
  refine set_plain (od := none) X ⟨hx, rfl, rfl, trivial⟩ T.sa ?_
  obtain ⟨hp, g, d, tk0, os⟩ := s
  refine osa_openX (od := none) T.sf X ⟨hx, rfl, rfl, trivial⟩ T.ov T.tkr fun b => ?_
  obtain ⟨cd, hc, hd'⟩ : ∃ cd, clsIn K C = some cd ∧ cd.hasDict = true := by
    have := T.hdC
    unfold hasDictIn at this
    cases e : clsIn K C with
    | none => rw [e] at this; simp at this
    | some cd => rw [e] at this; exact ⟨cd, rfl, by simpa using this⟩
  have hxs : x ≠ hp.objs.size := Nat.ne_of_lt (Heap.lt_size hx)
  refine wpAny_bind (wpAny_pure (wpAny_bind (instanceDict_exc hx (looks_clsIn X hc) hd' ?_)))
  refine store_in_new ⟨dictOf [] 0, #[], 0, (Heap.get?_update_other _ _ hxs).trans (Heap.get?_push_at rfl rfl), rfl, fun e he => absurd he (by simp), fun _ => rfl⟩ fun h' tk' hn' hs => ?_
  have e1 : ((hp.push (dictOf [] 0)).update x fun o => { o with dict := some hp.objs.size }).get? x = some (excObj C t (some hp.objs.size) .none) := Heap.get?_update_self _ (Heap.get?_push_of_some _ hx) rfl
  exact hq h' tk' hp.objs.size (fun b o hb ho => (hs.2 b (Nat.ne_of_lt (Heap.lt_size ho))).trans ((Heap.get?_update_other _ _ (Ne.symm hb)).trans (Heap.get?_push_of_some _ ho))) (Nat.le_refl _) hxs.symm ((hs.2 x hxs).trans e1) hn'
/-- __init__ runs -/
theorem xc_init (T : ExTxt P K st C fI cc cda fd B newId initId bmB fld) {x t0 : Addr} {v : Value} (X : K.In s.heap) (hg : s.heap.Ns mainGlobals mg) (hbt : ∃ mb, s.heap.Ns builtinsNs mb ∧ ∀ x : Str, x ≠ "__name__" → mb x = bootBuiltins x) (hlim : s.heap.NoLimit)
    (hx : s.heap.get? x = some (excObj C t0 none .none)) (hnx : K.lookup x = none) (hroom : A.depth < recursionLimit)
    (hq : ∀ h' tk dx t1, XInit s.heap h' x C dx t1 fld v → R (.ok (.ret .none)) { s with heap := h', toks := tk }) :
    codeAny (model P w) A (.call (.ref fI) ⟨[.ref x, v], []⟩) R s := by
  obtain ⟨qual, oc, dV, kV, doc, pm, ct, od, an, osl, rfl, hfI, hcd⟩ := T.fn
  obtain ⟨ccl, cdd, vs, ccs, file, tf, hcode, hvs, hfile⟩ := T.code
  obtain ⟨cl, cld, csl, hcell⟩ := T.clc
  obtain ⟨txt, j, a1, a2, a3, a4, a5, a6, b1, b2, b3, b4, hbody, hev⟩ := T.ini.body
  obtain ⟨pan, pp, hpar⟩ := T.ini.par
  refine ks_codeAny_call_defAt (binds := [("self", .ref x), (fld, v)]) hroom (X _ _ hfI) rfl hlim (codeRec_of X hcd) rfl (T.bnd s x v) T.ini.cell (fun y hy => ?_) (fun h₁ hn k₁ => ?_) T.ini.co T.ini.gen T.ini.kind
  · rcases List.mem_cons.mp hy with rfl | hy
    · exact T.ini.ls
    · rcases List.mem_cons.mp hy with rfl | hy
      · exact T.ini.lf
      · cases hy
  obtain ⟨hp, g, d, tk, os⟩ := s
  have X₁ : K.In h₁ := X.keeps k₁
  have hx₁ := k₁ _ _ hx
  have hxL : x ≠ hp.objs.size := Nat.ne_of_lt (Heap.lt_size hx)
  obtain ⟨mb, hb0, hbm⟩ := hbt
  obtain ⟨cdC, hcC⟩ : ∃ cd, clsIn K C = some cd := by
    have := T.hdC
    unfold hasDictIn at this
    cases e : clsIn K C with
    | none => rw [e] at this; simp at this
    | some cd => exact ⟨cd, rfl⟩
  obtain ⟨oD, hD1, hD2⟩ : ∃ oD, h₁.get? C = some oD ∧ oD.data = .cls cdC := by
    have hcC' := hcC
    unfold clsIn at hcC'
    split at hcC'
    · rename_i c d cd' sl ho
      cases hcC'
      exact ⟨_, X₁ _ _ ho, rfl⟩
    · cases hcC'
  have hself : ([("self", Value.ref x), (fld, v)] : List (Str × Value)).reverse.lookup ("self" : Str) = some (Value.ref x) := by
    have e : (("self" : Str) == fld) = false := by simpa using Ne.symm T.ini.ne
    simp [List.lookup, e]
  have hfld : ([("self", Value.ref x), (fld, v)] : List (Str × Value)).reverse.lookup fld = some v := by simp [List.lookup]
  rw [hbody]
  show PySem.wpAt _ _ (.func _ (ksEnv qual (defScope st) hp.objs.size fI (.ref cda) cc)) (execs _ (ksEnv qual (defScope st) hp.objs.size fI (.ref cda) cc)) _ _ _
  obtain ⟨pl, hev⟩ := hev (ksEnv qual (defScope st) hp.objs.size fI (.ref cda) cc)
  refine ks_wpAt_execs_cons (ks_wpAt_Expr_any (ks_wpAt_MethodCall (pl := pl) ?_ hev) (by simp [interactive, T.ini.kind]))
  refine ks_wpAt_super_base (env := ksEnv qual (defScope st) hp.objs.size fI (.ref cda) cc) T.ini.lsu T.ini.lc (by decide) rfl (X₁ _ _ hfI) rfl hpar rfl (X₁ _ _ hcode) rfl hvs hfile T.top ?_
  refine ks_loadName_global T.ini.kind T.ini.lsu (loadGlobal_builtin (env := ksEnv qual (defScope st) hp.objs.size fI (.ref cda) cc) (hg.keeps k₁) (mg_none_of X hg T.sup) (hb0.keeps k₁) ((hbm _ (by decide +kernel)).trans (by decide +kernel)) ⟨rfl, ?_⟩)
  refine wpAny_loadName_free T.ini.kind T.ini.lc rfl ⟨_, X₁ _ _ hcell, rfl⟩ ?_
  refine wpAny_loadName_local T.ini.kind T.ini.ls hn hself ?_
  refine ks_wpAny_isType_cls hD1 hD2 ⟨rfl, ?_⟩
  refine ks_wpAny_call_super hD1 hD2 hx₁ rfl (fun c e => by cases e) (looks_mroIn X₁ T.mro) (fun h₂ hso k₂ => ?_)
  have X₂ : K.In h₂ := X₁.keeps k₂
  have hx₂ := k₂ _ _ hx₁
  have hI : Looks (model P w) h₂ (isInstance (.ref x) (.type B)) true := (InstAt.type (ox := excObj C t0 none .none) (od := none) ⟨hx₂, rfl, rfl, trivial⟩).andThen (looks_subIn X₂ T.exB)
  have hxC : x ≠ C := fun z => by
    rw [← z] at hD1
    rw [hx₁] at hD1
    cases hD1
    cases hD2
  have alo := T.alo
  unfold ks_superIn at alo
  rw [hcC] at alo
  refine kxs_getMethod T.kxs hso (looks_opaque X₂ T.opq) (l₀ := cdC.mro) (fun A Q E s k q => wpAny_bind ((looks_clsIn X₂ hcC) A _ E s k (wpAny_pure q))) rfl X₂ alo hI hxC (by decide) ?_
  have k₃ : ∀ b o, h₂.get? b = some o → (h₂.push (kxs_mw initId x)).get? b = some o := fun b o e => Heap.get?_push_of_some _ e
  have hu : (h₂.push (kxs_mw initId x)).get? h₂.objs.size = some (kxs_mw initId x) := Heap.get?_push_at rfl rfl
  refine kxs_callWith (i := initId) (x := x) rfl ?_
  refine evalArgs_plain ?_
  refine spliced_cons (Constant_str (k := j) (pos := a4) ?_)
  refine spliced_nil ⟨hu, ?_⟩
  have hLs : hp.objs.size < h₂.objs.size := by
    obtain ⟨oL, _, _, hL, _⟩ := hn
    exact Heap.lt_size (k₂ _ _ hL)
  have hux : h₂.objs.size ≠ x := Nat.ne_of_gt (Heap.lt_size hx₂)
  obtain ⟨nm, Nc, qn, bs, bm, hdct, sn, sub, ab, col, dd, k0, k1, k2, k3, k5, oC, -⟩ := excInit_of (X₂.keeps k₃) T.ei
  refine init_call T.eb oC hu (k₃ _ _ hx₂) (by rw [sizeLine_eq]; exact (by decide : 1 ≤ 16777216)) fun h' kp' hx' => ?_
  have X' : K.In h' := fun a o e => kp' a o (fun z => by rw [z, hnx] at e; cases e) (k₃ _ _ (X₂ a o e))
  have ns' : h'.Ns hp.objs.size (fun y => ([("self", Value.ref x), (fld, v)] : List (Str × Value)).reverse.lookup y) := by
    obtain ⟨oL, es, ep, hL, r⟩ := (hn.keeps k₂).keeps k₃
    exact ⟨oL, es, ep, kp' _ _ (Ne.symm hxL) hL, r⟩
  have hLs' : hp.objs.size < h'.objs.size := by
    obtain ⟨oL, _, _, hL, _⟩ := ns'
    exact Heap.lt_size hL
  refine wpAt_of_wpAny (wpAny_execs_cons (plainObj_wpAny_Assign_Attribute ?_))
  refine wpAny_Name (wpAny_loadName_local T.ini.kind T.ini.lf ns' hfld ?_) T.ini.nd
  refine wpAny_Name (wpAny_loadName_local T.ini.kind T.ini.ls ns' hself ?_) (by decide)
  refine xc_store (s := ⟨h', g, d, _, os⟩) T X' hx' fun h'' tk'' dx kp dn dne ho hns => wpAny_execs_nil ?_
  exact hq h'' tk'' dx _ ⟨fun b o hb e => kp b o hb (kp' b o hb (k₃ _ _ (k₂ _ _ (k₁ _ _ e)))), ho, Nat.le_trans (Nat.le_of_lt hLs') dn, dne, hns⟩
/-- a made error -/
structure XMade (h h' : Heap) (e C d : Addr) (fld : Str) (v : Value) : Prop where
  keep : ∀ b o, h.get? b = some o → h'.get? b = some o
  new : h.objs.size ≤ e
  obj : ∃ oe vs, h'.get? e = some oe ∧ oe.cls = .ref C ∧ oe.dict = some d ∧ oe.data = .fields vs ∧ vs[1]? = some .none
  dbig : h.objs.size ≤ d
  dne : d ≠ e
  ns : h'.Ns1 d (fun y => if y = fld then some v else none)
theorem xc_made (T : ExTxt P K st C fI cc cda fd B newId initId bmB fld) {v : Value} (X : K.In s.heap) (hg : s.heap.Ns mainGlobals mg) (hbt : ∃ mb, s.heap.Ns builtinsNs mb ∧ ∀ x : Str, x ≠ "__name__" → mb x = bootBuiltins x) (hlim : s.heap.NoLimit) (hroom : A.depth + 1 < recursionLimit)
    (hq : ∀ h' tk e d, XMade s.heap h' e C d fld v → R (.ok (.ret (.ref e))) { s with heap := h', toks := tk }) :
    codeAny (model P w) A (.call (.ref C) ⟨[v], []⟩) R s := by
  obtain ⟨nm, N, qn, bs, bm, hdct, sn, sub, ab, col, dd, k0, k1, k2, k3, k5, hC, hT⟩ := excInit_of X T.ei
  obtain ⟨hp, g, dr, tk, os⟩ := s
  have k : ∀ b o, hp.get? b = some o → ((hp.push (kdv_tup [v])).push (excO C hp.objs.size)).get? b = some o := fun b o e => Heap.get?_push_of_some _ (Heap.get?_push_of_some _ e)
  have hget : ((hp.push (kdv_tup [v])).push (excO C hp.objs.size)).get? (hp.objs.size + 1) = some (excObj C hp.objs.size none .none) := by heap_get
  have hnx : K.lookup (hp.objs.size + 1) = none := by
    cases e : K.lookup (hp.objs.size + 1) with
    | none => rfl
    | some o => exact absurd (Nat.lt_of_succ_lt (Heap.lt_size (show hp.get? (hp.objs.size + 1) = some o from X _ _ e))) (Nat.lt_irrefl _)
  obtain ⟨mb, hb0, hbm⟩ := hbt
  obtain ⟨Bn, inN, bmN, F, hB⟩ := T.eb.nw
  refine made_call F ((hT _).trans hB) ((hT _).trans T.eb.na) ((hT _).trans T.eb.nn) hC (looks_findIn X T.iC) (fun self => bind_fn X self T.tC) (by rw [sizeLine_eq]; exact (by decide : 1 ≤ 16777216)) ?_
  refine xc_init (s := ⟨(hp.push (kdv_tup [v])).push (excO C hp.objs.size), g, dr, tk, os⟩) T (X.keeps k) (hg.keeps k) ⟨mb, hb0.keeps k, hbm⟩ (hlim.keeps k) hget hnx hroom fun h' tk' dx t1 M => ?_
  have z : hp.objs.size + 1 + 1 ≤ dx := by
    have q := M.dbig
    simpa only [Heap.size_push] using q
  exact ⟨rfl, hq h' tk' (hp.objs.size + 1) dx ⟨fun b o e => M.keep b o (Nat.ne_of_lt (Nat.lt_succ_of_lt (Heap.lt_size e))) (k b o e), Nat.le_succ _, ⟨_, _, M.obj, rfl, rfl, rfl, rfl⟩, by show hp.objs.size ≤ dx; omega, M.dne, M.ns⟩⟩
end
end Lad
namespace Lad
open PySem L2
theorem relO_one {v : V} {v' : Value} (r : RelV v v') (g f : Str) : RelO (List.lookup f [(g, v)]) (if f = g then some v' else none) := by
  by_cases hw : f = g
  · subst hw
    rw [if_pos rfl]
    have q : List.lookup f [(f, v)] = some v := by simp [List.lookup]
    rw [q]
    exact r
  · rw [if_neg hw]
    have qw : (f == g) = false := by simpa using hw
    have q2 : List.lookup f [(g, v)] = none := by simp [List.lookup, qw]
    rw [q2]
    trivial
section
variable {X : Cx} {st : Stmt} {C fI cc cda : Addr} {fd : FuncData} {B newId initId : String} {bmB : List Value} {fld : Str}
def tMkX (C : Addr) (fld : Str) (ta : TA) : St → Hp → XK → Prop := fun σ H Q => ta σ H fun vs H1 => ∃ v, vs = [v] ∧ ∀ d, H1 d = none → Q (.ref C) (some d) (upd H1 d (.xd [(fld, v)]))
theorem pmk_x {x : Str} {a : Expr} {ta : TA} {p pos : Pos} {k : Nat} (T : ExTxt X.prog X.K st C fI cc cda fd B newId initId bmB fld) (hr : Room k X.A) (gC : X.mg x = some (.ref C)) (ha : PA X [a] ta) (hg : Gl X x := by rfl) (hdb : (x == ("__debug__" : Str)) = false := by decide)
    (he : starEach (a :: []) X.env = (false, eval a X.env) :: starEach [] X.env := by rfl) (hpl : (backTo pos (starEach [] X.env)).any (·.1) = false := by rfl) :
    PMk X (.Call (.Name x p) [a] [] pos) (tMkX C fld ta) := by
  intro pins s σ H Q I h
  refine wpAny_Call_Name_kw (ld_glob I hg gC ?_ hdb)
  refine PySem.W.callWith_K (h₀ := X.base) I.ok.mod.kin T.kC (thn (ha.run pos pins s σ H _ I h) fun us s1 hh => ?_) he hpl
  obtain ⟨vs, H1, I1, r1, v, ev, q1⟩ := hh
  subst ev
  refine ⟨I1.kIn, ?_⟩
  cases r1 with
  | cons rv rn =>
    rename_i v' us'
    cases rn
    have hlim := I1.nolimit
    obtain ⟨mb, hb0, hbm⟩ := I1.ok.mod.blt
    have hg1 := I1.ok.mod.glob.keeps I1.bk
    have hb1 := hb0.keeps I1.bk
    obtain ⟨hp, g, dr, tk, os⟩ := s1
    refine wpAny_call (xc_made T I1.kIn hg1 ⟨mb, hb1, hbm⟩ hlim (by have := hr.dp; omega) fun h' tk' e d M => ?_)
    show MkP X pins σ Q (.ref e) ⟨h', g, dr, tk', os⟩
    obtain ⟨oe, fv, hoe, hc, hd, hdat, h1⟩ := M.obj
    have hns := M.ns
    obtain ⟨G', g1, g2⟩ := restrict h' fun b => decide (b ≠ e)
    have gk : ∀ b, b ≠ e → G'.get? b = h'.get? b := fun b hb => g1 b (decide_eq_true hb)
    have ge : G'.get? e = none := g2 e (by simp)
    have old : ∀ b o, hp.get? b = some o → G'.get? b = some o := fun b o q => (gk b (Nat.ne_of_lt (Nat.lt_of_lt_of_le (Heap.lt_size q) M.new))).trans (M.keep b o q)
    have ob : ObjOk X.prog X.w (upd H1 d (.xd [(fld, v)])) G' d (.xd [(fld, v)]) := ⟨_, hns.at (fun o q => (gk d M.dne).trans q), fun f => relO_one rv fld f⟩
    have J : Inv X pins σ (upd H1 d (.xd [(fld, v)])) ⟨G', g, dr, tk', os⟩ := I1.laid (t' := tk') old M.dbig ob
    refine ⟨e, oe, fv, ⟨G', g, dr, tk', os⟩, _, .ref C, some d, rfl, J, fun b o q => ?_, ge, hoe, ⟨hc, hd⟩, hdat, h1, ?_, rfl, I1.bare, raises_own T.exC T.tyC, q1 d (I1.hok.fresh M.dbig)⟩
    · by_cases hb : b = e
      · have q' : G'.get? b = some o := q
        rw [hb, ge] at q'; cases q'
      · exact (gk b hb).symm.trans q
    · rw [upd_ne (Ne.symm M.dne)]
      exact I1.hok.fresh M.new
end
def sRaise (c : Nat) (f : En → Hea → Res Val) : En → Hea → SRes := fun e h => ofR (f e h) e fun d h1 => .exc c d e h1
section
variable {T : Tb} {X : Cx} {W : WX} {st : Stmt} {fI cc cda : Addr} {fd : FuncData} {B newId initId : String} {bmB : List Value} {c : Nat} {x : Str} {a : Expr} {f : En → Hea → Res Val} {p pos pos2 : Pos} {k : Nat}
theorem st_raise (hc : X.calm = true) (E : ExTxt X.prog X.K st (T.ca c) fI cc cda fd B newId initId bmB (T.fld c)) (hr : Room k X.A) (gC : X.mg x = some (.ref (T.ca c))) (tk : Takes X W) (ha : SE T X W a f) (hg : Gl X x := by rfl) (hdb : (x == ("__debug__" : Str)) = false := by decide)
    (he : starEach (a :: []) X.env = (false, eval a X.env) :: starEach [] X.env := by rfl) (hpl : (backTo pos (starEach [] X.env)).any (·.1) = false := by rfl) :
    SSt T X W (.Raise (some (.Call (.Name x p) [a] [] pos)) none pos2) (sRaise c f) := (ps_raise hc tk (pmk_x E hr gC (pa_cons ha pa_nil he) hg hdb he hpl)).imp fun D σ H q => by
  obtain ⟨ρ, e, h, R, E, a⟩ := q
  refine ⟨ρ, e, h, R, E, (a.ofR E).mono fun v H1 ⟨ρ1, d, h1, s, R1, r, E1, a1⟩ => ⟨v, rfl, fun dx hd => ?_⟩⟩
  exact a1 ρ1 v σ _ dx (.side hd) (R1.side hd) (r.mono (.side hd)) (E1.mono (.side hd)) upd_same
end
end Lad
end
section
set_option maxRecDepth 100000
set_option maxHeartbeats 2000000
namespace Lad
open PySem L2
mutual
def Val.noEx : Val → Bool
  | .tup xs => noExL xs
  | .lst xs => noExL xs
  | .dic _ _ xs => noExL xs
  | .obj _ _ xs => noExL xs
  | .exn _ _ => false
  | _ => true
def noExL : List Val → Bool
  | [] => true
  | x :: xs => x.noEx && noExL xs
end
def noExKv : List (Val × Val) → Bool
  | [] => true
  | (a, b) :: xs => b.noEx && noExKv xs
def noExFs : List (Nat × Val) → Bool
  | [] => true
  | (a, b) :: xs => b.noEx && noExFs xs
def Ob.noEx : Ob → Bool
  | .lst xs => noExL xs
  | .fro _ => true
  | .dcK xs => noExKv xs
  | .dcT xs => noExKv xs
  | .dcL xs => noExKv xs
  | .dcM xs => noExKv xs
  | .ins _ fs => noExFs fs
def noExH : Hea → Bool
  | [] => true
  | o :: os => o.noEx && noExH os
def noExE : En → Bool
  | [] => true
  | none :: r => noExE r
  | some v :: r => v.noEx && noExE r
/-- the same tables but for the handled error -/
def Sy.like (S S' : Sy) : Prop := S.K = S'.K ∧ S.ca = S'.ca ∧ S.nm = S'.nm ∧ S.fld = S'.fld ∧ S.P = S'.P ∧ S.w = S'.w
section
variable {S S' : Sy} {ρ : Own} {H : Hp}
mutual
theorem Rep.no : ∀ {d : Val} {v : V}, S.ex = none → Rep S ρ H d v → d.noEx = true
  | _, _, _, .non => rfl
  | _, _, _, .bl _ => rfl
  | _, _, _, .int _ => rfl
  | _, _, _, .str _ => rfl
  | _, _, h, .tup _ r => by simp only [Val.noEx]; exact Reps.no h r
  | _, _, h, .lst _ _ r => by simp only [Val.noEx]; exact Reps.no h r
  | _, _, h, .dicK _ _ _ _ r => by simp only [Val.noEx]; exact Reps.no h r
  | _, _, h, .dicT _ _ _ _ _ _ r => by simp only [Val.noEx]; exact Reps.no h r
  | _, _, h, .obj _ _ _ _ r => by simp only [Val.noEx]; exact Reps.no h r
  | _, _, _, .ref _ => rfl
  | _, _, h, .exn e _ _ => by rw [h] at e; cases e
theorem Reps.no : ∀ {d : List Val} {v : List V}, S.ex = none → Reps S ρ H d v → noExL d = true
  | _, _, _, .nil => rfl
  | _, _, h, .cons r t => by simp only [noExL, Rep.no h r, Reps.no h t, Bool.and_self]
end
mutual
theorem Rep.like (l : S.like S') : ∀ {d : Val} {v : V}, d.noEx = true → Rep S ρ H d v → Rep S' ρ H d v
  | _, _, _, .non => .non
  | _, _, _, .bl _ => .bl _
  | _, _, _, .int _ => .int _
  | _, _, _, .str _ => .str _
  | _, _, h, .tup s r => .tup (by rw [← l.1]; exact s) (Reps.like l (by simpa [Val.noEx] using h) r)
  | _, _, h, .lst f q r => .lst f q (Reps.like l (by simpa [Val.noEx] using h) r)
  | _, _, h, .dicK f q e1 e2 r => .dicK f q e1 e2 (Reps.like l (by simpa [Val.noEx] using h) r)
  | _, _, h, .dicT f q e1 e2 r e3 r2 => .dicT f (by rw [← l.2.2.2.2.1, ← l.2.2.2.2.2]; exact q) e1 e2 (toNK_reps l.1.symm e2 r) e3 (Reps.like l (by simpa [Val.noEx] using h) r2)
  | _, _, h, .obj f q e1 e2 r => .obj f (by rw [← l.2.1]; exact q) (by rw [← l.2.2.1]; exact e1) e2 (Reps.like l (by simpa [Val.noEx] using h) r)
  | _, _, _, .ref e => .ref e
  | _, _, h, .exn _ _ _ => by simp [Val.noEx] at h
theorem Reps.like (l : S.like S') : ∀ {d : List Val} {v : List V}, noExL d = true → Reps S ρ H d v → Reps S' ρ H d v
  | _, _, _, .nil => .nil
  | _, _, h, .cons r t => by
    simp only [noExL, Bool.and_eq_true] at h
    exact .cons (Rep.like l h.1 r) (Reps.like l h.2 t)
end
theorem KvR.like {κ : Type} {kd : κ → Val} (l : S.like S') : ∀ {d : List (Val × Val)} {v : List (κ × V)}, noExKv d = true → KvR S ρ H kd d v → KvR S' ρ H kd d v
  | _, _, _, .nil => .nil
  | _, _, h, .cons r t => by
    simp only [noExKv, Bool.and_eq_true] at h
    exact .cons (Rep.like l h.1 r) (KvR.like l h.2 t)
theorem KvN.like (l : S.like S') : ∀ {d : List (Val × Val)} {v : List (NestedKey × Addr × V)}, noExKv d = true → KvN S ρ H d v → KvN S' ρ H d v
  | _, _, _, .nil => .nil
  | _, _, h, .cons r e q t => by
    simp only [noExKv, Bool.and_eq_true] at h
    exact .cons (toNK_rep l.1.symm e r) e (Rep.like l h.1 q) (KvN.like l h.2 t)
theorem KvN.no (h : S.ex = none) : ∀ {d : List (Val × Val)} {v : List (NestedKey × Addr × V)}, KvN S ρ H d v → noExKv d = true
  | _, _, .nil => rfl
  | _, _, .cons _ _ q t => by simp only [noExKv, Rep.no h q, KvN.no h t, Bool.and_self]
theorem FsR.like (l : S.like S') : ∀ {d : List (Nat × Val)} {v : List (Str × V)}, noExFs d = true → FsR S ρ H d v → FsR S' ρ H d v
  | _, _, _, .nil => .nil
  | _, _, h, .cons r t => by
    simp only [noExFs, Bool.and_eq_true] at h
    rw [l.2.2.1]
    exact .cons (Rep.like l h.1 r) (FsR.like l h.2 t)
theorem KvR.no {κ : Type} {kd : κ → Val} (h : S.ex = none) : ∀ {d : List (Val × Val)} {v : List (κ × V)}, KvR S ρ H kd d v → noExKv d = true
  | _, _, .nil => rfl
  | _, _, .cons r t => by simp only [noExKv, Rep.no h r, KvR.no h t, Bool.and_self]
theorem FsR.no (h : S.ex = none) : ∀ {d : List (Nat × Val)} {v : List (Str × V)}, FsR S ρ H d v → noExFs d = true
  | _, _, .nil => rfl
  | _, _, .cons r t => by simp only [noExFs, Rep.no h r, FsR.no h t, Bool.and_self]
theorem ObR.like (l : S.like S') {o : Ob} {a : Addr} (h : o.noEx = true) (r : ObR S ρ H o a) : ObR S' ρ H o a := by
  cases r with
  | lst h1 h2 => exact .lst h1 (h2.like l h)
  | fro h1 => exact .fro h1
  | dcK h1 h2 => exact .dcK h1 (h2.like l h)
  | dcT h1 h2 => exact .dcT (by rw [← l.2.2.2.2.1, ← l.2.2.2.2.2]; exact h1) (h2.like l h)
  | dcL h1 h2 => exact .dcL h1 (h2.like l h)
  | dcM h1 h2 => exact .dcM (by rw [← l.2.2.2.2.1, ← l.2.2.2.2.2]; exact h1) (h2.like l h)
  | ins h1 h2 => exact .ins (by rw [← l.2.1]; exact h1) (h2.like l h)
theorem ObR.no (h : S.ex = none) {o : Ob} {a : Addr} (r : ObR S ρ H o a) : o.noEx = true := by
  cases r with
  | lst h1 h2 => exact h2.no h
  | fro h1 => rfl
  | dcK h1 h2 => exact h2.no h
  | dcT h1 h2 => exact h2.no h
  | dcL h1 h2 => exact h2.no h
  | dcM h1 h2 => exact h2.no h
  | ins h1 h2 => exact h2.no h
theorem noExH_get : ∀ {h : Hea} {i : Nat} {o : Ob}, noExH h = true → h[i]? = some o → o.noEx = true
  | o :: os, 0, _, h, e => by
    simp only [noExH, Bool.and_eq_true] at h
    cases e
    exact h.1
  | o :: os, i + 1, _, h, e => by
    simp only [noExH, Bool.and_eq_true] at h
    exact noExH_get (i := i) h.2 e
  | [], _, _, _, e => by simp at e
theorem Rel.like {h : Hea} (l : S.like S') (hn : ∀ (i : Nat) (o : Ob), h[i]? = some o → o.noEx = true) (R : Rel S ρ h H) : Rel S' ρ h H := ⟨R.len, R.inj, fun i o a e1 e2 => (R.ob i o a e1 e2).like l (hn i o e1), R.hid⟩
theorem Rel.no {h : Hea} (hx : S.ex = none) (R : Rel S ρ h H) : ∀ (i : Nat) (o : Ob), h[i]? = some o → o.noEx = true := fun i o e => by
  obtain ⟨a, _, r⟩ := R.at e
  exact r.no hx
theorem ER.like (l : S.like S') : ∀ {e : En} {σ : St}, noExE e = true → ER S ρ H e σ → ER S' ρ H e σ
  | _, _, _, .nil => .nil
  | none :: _, _, h, .cons r t => .cons (fun x e => nomatch e) (ER.like l h t)
  | some v :: _, _, h, .cons r t => by
    simp only [noExE, Bool.and_eq_true] at h
    exact .cons (fun x e => by
      obtain ⟨y, ey, q⟩ := r x e
      cases e
      exact ⟨y, ey, q.like l h.1⟩) (ER.like l h.2 t)
theorem ER.no (hx : S.ex = none) : ∀ {e : En} {σ : St}, ER S ρ H e σ → noExE e = true
  | _, _, .nil => rfl
  | none :: _, _, .cons r t => by
    simp only [noExE]
    exact ER.no hx t
  | some v :: _, _, .cons r t => by
    obtain ⟨y, ey, q⟩ := r v rfl
    simp only [noExE, q.no hx, ER.no hx t, Bool.and_self]
theorem Kp.like (l : S.like S') {H' : Hp} (k : Kp S H H') : Kp S' H H' := ⟨fun a xs h => by rw [← l.1] at h ⊢; exact k.1 a xs h, k.2⟩
theorem Go.like (l : S.like S') {ρ' : Own} {H' : Hp} (g : Go S ρ H ρ' H') : Go S' ρ H ρ' H' := ⟨g.sub, g.kp.like l, g.fr, g.nw, g.hd⟩
end
/-- what a suite leaves -/
def suiteEnd (i : Nat) (h1 : Hea) : SRes → SRes
  | .rt v h2 => if (noExH h2 && v.noEx) = true then .rt v h2 else .stuck
  | .nx e2 h2 => if (noExH h2 && noExE (e2.set i none)) = true then .nx (e2.set i none) h2 else .stuck
  | _ => .stuck
def sTry1 (sub : Nat → Option Bool) (i : Nat) (fb fs : En → Hea → SRes) : En → Hea → SRes := fun e h => match fb e h with
  | .exc c d e1 h1 => match sub c with
    | some true => suiteEnd i h1 (fs (e1.set i (some (.exn c d))) h1)
    | some false => .exc c d e1 h1
    | none => .stuck
  | r => r
section
variable {T : Tb} {X : Cx} {W : WX} {x n : Str} {cv : Value} {i : Nat} {body suite : List Stmt} {b₀ : Stmt} {np pos pos' : Pos} {fb fs : En → Hea → SRes} {sub : Nat → Option Bool}
abbrev Tb.at (T : Tb) (a : Addr) (c : Nat) (dx : Addr) : Tb := { T with ex := some (a, c, dx) }
theorem like_at {a : Addr} {c : Nat} {dx : Addr} : (sy T X).like (sy (T.at a c dx) X) := ⟨rfl, rfl, rfl, rfl, rfl, rfl⟩
theorem like_off {a : Addr} {c : Nat} {dx : Addr} : (sy (T.at a c dx) X).like (sy T X) := ⟨rfl, rfl, rfl, rfl, rfl, rfl⟩
theorem ends_ok {i : Nat} {a : Addr} {c : Nat} {dx : Addr} {ρ : Own} {H : Hp} {h1 : Hea} {r : SRes} {D : Ends} (hx : T.ex = none) (R : Rel (sy T X) ρ h1 H) (q : AftS (sy T X) ρ H (suiteEnd i h1 r) D W) :
    AftS (sy (T.at a c dx) X) ρ H r { nx := fun σ' H' => D.nx (σ'.set i none) H', rt := D.rt, bk := fun σ' H' => D.bk (σ'.set i none) H', ct := fun σ' H' => D.ct (σ'.set i none) H' } W0 := by
  have hn := R.no hx
  cases r with
  | rt v h2 =>
    unfold suiteEnd at q
    dsimp only at q
    split at q
    · rename_i hb
      simp only [Bool.and_eq_true] at hb
      exact fun ρ1 u H1 s R1 r1 => q ρ1 u H1 (s.like like_off) (R1.like like_off (fun _ _ z => noExH_get hb.1 z)) (r1.like like_off hb.2)
    · exact q.elim
  | nx e2 h2 =>
    unfold suiteEnd at q
    dsimp only at q
    split at q
    · rename_i hb
      simp only [Bool.and_eq_true] at hb
      exact fun ρ1 σ1 H1 s R1 E1 => q ρ1 _ H1 (s.like like_off) (R1.like like_off (fun _ _ z => noExH_get hb.1 z)) ((E1.gone i).like like_off hb.2)
    · exact q.elim
  | bk e2 h2 => exact q.elim
  | ct e2 h2 => exact q.elim
  | exc c2 d2 e2 h2 => exact q.elim
  | stuck => exact q.elim
end
def oExF : Hea → Val → Option Val
  | _, .exn _ d => some d
  | _, _ => none
section
variable {T : Tb} {X : Cx} {a dx : Addr} {c : Nat} {oe : Obj} {pn : List (Addr × Obj)} {e : Expr} {f : En → Hea → Res Val} {pos : Pos} {nm : Str}
theorem se_xf (XC : XfC X.K (T.ca c)) (hno : PySem.W.findIn X.K (.ref (T.ca c)) nm = some none) (hnm : T.fld c = nm) (hz : Zc (.ref (T.ca c)) (some dx) oe) (hf : ∃ vs, oe.data = .fields vs) (he : SE (T.at a c dx) (X.suite a ((a, oe) :: pn)) W0 e f)
    (hb : attributeBase e nm X.env (eval e X.env) = eval e X.env := by rfl) : SE (T.at a c dx) (X.suite a ((a, oe) :: pn)) W0 (.Attribute e nm pos) (eUn oExF f) := (pe_xf XC hno hz hf he hb).imp fun σ H Q q => by
  obtain ⟨ρ, e, h, R, E, a1⟩ := tE.bind (f := f) (g := fun e x h1 => opt (oExF h1 x) h1) q
  refine ⟨ρ, e, h, R, E, a1.mono fun v H1 ⟨ρ1, e1, d1, h1, b1, a2⟩ => ?_⟩
  obtain ⟨R1, E1, r1⟩ := b1
  unfold oExF at a2
  split at a2
  · cases r1 with
    | exn h1 h2 r =>
      cases h1
      refine ⟨rfl, rfl, dx, _, _, rfl, h2, ?_, a2.same R1 r⟩
      subst hnm
      simp [List.lookup]
  · exact a2.elim
end
end Lad
end
section
set_option maxRecDepth 100000
set_option maxHeartbeats 2000000
namespace Lad
open PySem L2
end Lad
end
section
set_option maxRecDepth 100000
set_option maxHeartbeats 2000000
namespace Lad
open PySem L2
def setIx (h : Hea) (o i v : Val) : Option Hea := match o, i with
  | .ref p, .int k => match h[p]? with
    | some (.lst xs) => match ixN xs.length k with
      | some j => some (h.set p (.lst (xs.set j v)))
      | none => none
    | _ => none
  | _, _ => none
def sSetIx (fv fo fi : En → Hea → Res Val) : En → Hea → SRes := fun e h => ofR ((fv e h).bind fun v h1 => (fo e h1).bind fun o h2 => (fi e h2).bind fun i h3 => match setIx h3 o i v with
    | some h4 => .ok Val.non h4
    | none => .stuck) e fun _ h4 => .nx e h4
section
variable {T : Tb} {X : Cx} {W : WX} {a o i : Expr} {fv fo fi : En → Hea → Res Val} {pos pos' : Pos}
theorem st_setIx (hv : SE T X W a fv) (ho : SE T X W o fo) (hi : SE T X W i fi)
    (ha : ∀ v, assign (.Subscript o i pos') X.env v = (do
      let ov ← holding [v] (eval o X.env)
      let iv ← holding [v, ov] (eval i X.env)
      standAt pos'
      holding [v, ov, iv] (setItem ov iv v)
      release [v, ov, iv] []) := by intro _; rfl)
    (hs : swapsWithSole [.Subscript o i pos'] a pos.line X.env = pure false := by rfl) (hw : swappedStores [.Subscript o i pos'] a X.env = pure none := by rfl)
    (h1 : (assignEach [.Subscript o i pos'] X.env).map (·.2) = [assign (.Subscript o i pos') X.env] := by rfl) : SSt T X W (.Assign [.Subscript o i pos'] a pos) (sSetIx fv fo fi) :=
  (ps_asg hv (pg_sub ho hi set_list ha) hs hw h1).imp fun D σ H q => by
    obtain ⟨ρ, e, h, R, E, a⟩ := q
    unfold sSetIx at a
    have a := (AftS.ofR a E).bind
    refine ⟨ρ, e, h, R, E, a.mono fun v H1 ⟨ρ1, d, h1, s, R1, r1, a1⟩ => ⟨ρ1, e, h1, R1, E.go s, a1.bind.mono fun ov H2 ⟨ρ2, od, h2, s2, R2, r2, a2⟩ => ⟨ρ2, e, h2, R2, (E.go s).go s2, a2.bind.mono fun iv H3 ⟨ρ3, id, h3, s3, R3, r3, a3⟩ => ?_⟩⟩⟩
    unfold setIx at a3
    split at a3
    · rename_i h4 hset
      split at hset
      · split at hset
        · rename_i xs hxs
          split at hset
          · rename_i j hj
            cases hset
            obtain ⟨p, rfl, ep⟩ := (r2.go s3).ref_
            obtain rfl := r3.int_
            have ob := R3.ob _ _ _ hxs ep
            cases ob with
            | @lst _ vs _ hl hr =>
              refine ⟨p, _, _, j, rfl, rfl, hl, by rw [← hr.length]; exact hj, ?_⟩
              have rv := (r1.go s2).go s3
              have kp : Mv (sy T X) ρ3 H3 ρ3 (upd H3 p (.lst (List.set vs j v))) := .put ep hl True.intro
              have R4 := R3.put (o := .lst (List.set vs j v)) (ob := .lst (List.set xs j d)) ep hl True.intro (.lst upd_same ((hr.set rv j).mono kp))
              have g4 : Go (sy T X) ρ3 H3 ρ3 (upd H3 p (.lst (List.set vs j v))) := .put ep hl True.intro
              obtain ⟨ρ5, d5, h5, s5, R5, r5, E5, a5⟩ := a3 ρ3 .non _ g4 R4 .non
              exact a5 ρ5 σ _ .rfl R5 E5
          · cases hset
        · cases hset
      · cases hset
    · exact a3.elim
end
def gReprB : Hea → List Val → Option Val
  | _, [.bl b] => some (.str (if b = true then "True" else "False"))
  | _, [.int i] => if i.natAbs.log2 < 1920 then some (.str (toString i)) else none
  | _, [.non] => some (.str "None")
  | _, [.str x] => if (PySem.reprText x).length ≤ 16777216 then some (.str (PySem.reprText x)) else none
  | _, _ => none
section
variable {T : Tb} {X : Cx}
theorem call_repr_non : CallR X (.builtin "repr") (fun xs H Q => xs = [.non] ∧ Q (.str "None") H) := by
  intro pins s σ H xs us Q I r h
  obtain ⟨rfl, q⟩ := h
  match us, r with
  | [_], .cons rb .nil =>
    cases rb
    exact PySem.P.repr_of_none ⟨.str _, H, I.tok _, ⟨_, rfl⟩, q⟩
theorem call_repr_str : CallR X (.builtin "repr") (fun xs H Q => ∃ x, xs = [.str x] ∧ (PySem.reprText x).length ≤ sizeLine ∧ Q (.str (PySem.reprText x)) H) := by
  intro pins s σ H xs us Q I r h
  obtain ⟨x, rfl, hz, q⟩ := h
  match us, r with
  | [_], .cons rb .nil =>
    obtain ⟨t, rfl⟩ := rb
    exact PySem.P.repr_of_str ⟨.str _, H, I.tok _, ⟨_, rfl⟩, q⟩ hz
theorem call_repr_bl : CallR X (.builtin "repr") (fun xs H Q => ∃ b, xs = [.bl b] ∧ Q (.str (if b = true then "True" else "False")) H) := by
  intro pins s σ H xs us Q I r h
  obtain ⟨b, rfl, q⟩ := h
  match us, r with
  | [_], .cons rb .nil =>
    cases rb
    exact PySem.P.repr_of_bool ⟨.str _, H, I.tok _, ⟨_, rfl⟩, q⟩
theorem g_reprB : CallR X (.builtin "repr") (rC (sy T X) gReprB) := CallR.imp (CallR.or call_repr_bl (CallR.or SkE.call_repr_int (CallR.or call_repr_non call_repr_str))) fun vs H Q h => by
  obtain ⟨ρ, h, ds, R, r, a⟩ := h
  unfold gReprB at a
  split at a
  · obtain rfl := Reps.bls (ns := [_]) r
    exact .inl ⟨_, rfl, Aft.same (d := .str _) a R (.str _)⟩
  · split at a
    · rename_i hl
      obtain rfl := Reps.ints (ns := [_]) r
      exact .inr (.inl ⟨_, rfl, hl, Aft.same (d := .str _) a R (.str _)⟩)
    · exact a.elim
  · match vs, r with
    | [_], .cons q .nil =>
      cases q
      exact .inr (.inr (.inl ⟨rfl, Aft.same (d := .str _) a R (.str _)⟩))
  · split at a
    · rename_i hl
      match vs, r with
      | [_], .cons q .nil =>
        cases q
        exact .inr (.inr (.inr ⟨_, rfl, by rw [sizeLine_eq]; exact hl, Aft.same (d := .str _) a R (.str _)⟩))
    · exact a.elim
  · exact a.elim
end
def iSeq (f : En → Hea → Res Val) : En → Hea → Res Src := fun e h => (f e h).bind fun d h1 => match d with
  | .ref i => if (lstAt h1 i).isSome = true then .ok (srcLive i) h1 else .stuck
  | .tup xs => .ok (srcFix xs) h1
  | .lst xs => .ok (srcFix xs) h1
  | _ => .stuck
theorem pi_or {X : Cx} {tg e : Expr} {t u : TI} (h1 : PI X tg e t) (h2 : PI X tg e u) : PI X tg e (fun σ H R => t σ H R ∨ u σ H R) := ⟨fun pins s σ H R I q => by
  rcases q with q | q
  · exact h1.run pins s σ H R I q
  · exact h2.run pins s σ H R I q⟩
section
variable {T : Tb} {X : Cx} {W : WX} {tg a : Expr} {f : En → Hea → Res Val}
theorem si_seq (ha : SE T X W a f) : SI T X W tg a (iSeq f) := (pi_or (si_val (tg := tg) ha) (si_tup (tg := tg) ha)).imp fun σ H Q q => by
  obtain ⟨ρ, e, h, R, E, a⟩ := q
  by_cases hc : ∃ xs h1, f e h = .ok (.tup xs) h1
  · obtain ⟨xs, h1, hf⟩ := hc
    refine .inr ⟨ρ, e, h, R, E, ?_⟩
    unfold iSeq at a
    unfold iTupV
    rw [hf] at a ⊢
    exact a
  · refine .inl ⟨ρ, e, h, R, E, ?_⟩
    unfold iSeq at a
    unfold iVal
    cases hf : f e h with
    | ok d h1 =>
      rw [hf] at a
      cases d with
      | tup xs => exact absurd ⟨xs, h1, hf⟩ hc
      | _ => exact a
    | exc c d h1 => rw [hf] at a; exact a
    | stuck => rw [hf] at a; exact a
end
section
variable {T : Tb} {X : Cx} {W : WX} {a : Expr} {f : En → Hea → Res Val} {p2 pos : Pos}
def eOpt (f : Option (En → Hea → Res Val)) (e : En) (h : Hea) : Res (Option Int) := match f with
  | none => .ok none h
  | some g => (g e h).bind fun i h3 => match i with | .int i => .ok (some i) h3 | _ => .stuck
def cutL (xs : List Val) (lo hi : Option Int) : List Val := (xs.drop (HT.sIx xs.length 0 lo)).take (HT.sIx xs.length xs.length hi - HT.sIx xs.length 0 lo)
/-- xs[lo:hi], xs a list -/
def lCut (f : En → Hea → Res Val) (lo hi : Option (En → Hea → Res Val)) : En → Hea → Res (List Val) := fun e h => (f e h).bind fun d h1 => (eOpt lo e h1).bind fun l h2 => (eOpt hi e h2).bind fun u h3 => match lstOf h3 d with
  | some xs => .ok (cutL xs l u) h3
  | none => .stuck
def tO (S : Sy) (W : WX) (f : Option (En → Hea → Res Val)) : TO := fun σ H Q => ∃ ρ e h, Rel S ρ h H ∧ ER S ρ H e σ ∧ (match eOpt f e h with
  | .ok l h' => ∀ ρ' H', Go S ρ H ρ' H' → Rel S ρ' h' H' → Q l H'
  | .exc c d h' => ∀ ρ' v H' dx, Go S ρ H ρ' H' → Rel S ρ' h' H' → Rep S ρ' H' d v → H' dx = some (.xd [(S.fld c, v)]) → W (.ref (S.ca c)) (some dx) σ H'
  | .stuck => False)
theorem so_none : PO X none (tO (sy T X) W none) := ⟨fun pins s σ H Q I q => po_none.run pins s σ H Q I (by
  obtain ⟨ρ, e, h, R, E, a⟩ := q
  exact a ρ H .rfl R)⟩
theorem so_some {e : Expr} (he : SE T X W e f) : PO X (some e) (tO (sy T X) W (some f)) := ⟨fun pins s σ H Q I q => (po_some he).run pins s σ H Q I (by
  obtain ⟨ρ, e, h, R, E, a⟩ := q
  refine ⟨ρ, e, h, R, E, ?_⟩
  unfold eOpt at a
  revert a
  dsimp only
  cases f e h with
  | ok d h1 =>
    intro a ρ1 v H1 s R1 r1
    cases d with
    | int i =>
      obtain rfl := r1.int_
      exact ⟨i, rfl, a ρ1 H1 s R1⟩
    | _ => exact a.elim
  | exc c d h1 => exact fun a => a
  | stuck => exact fun a => a)⟩
end
end Lad
end
section
set_option maxRecDepth 100000
set_option maxHeartbeats 2000000
namespace Lad
open PySem L2
theorem Reps.slc {S : Sy} {ρ : Own} {H : Hp} {xs : List Val} {vs : List V} (r : Reps S ρ H xs vs) (lo hi : Option Int) : Reps S ρ H (cutL xs lo hi) (cutV vs lo hi) := by
  unfold cutL cutV
  rw [r.length]
  exact (r.drop _).take _
section
variable {S : Sy} {ρ : Own} {H : Hp} {f : Option (En → Hea → Res Val)} {e : En} {h : Hea} {W : XK}
def AftO (S : Sy) (ρ : Own) (H : Hp) (r : Res (Option Int)) (Q : Option Int → Hp → Prop) (W : XK) : Prop := match r with
  | .ok l h' => ∀ ρ' H', Go S ρ H ρ' H' → Rel S ρ' h' H' → Q l H'
  | .exc c d h' => ∀ ρ' v H' dx, Go S ρ H ρ' H' → Rel S ρ' h' H' → Rep S ρ' H' d v → H' dx = some (.xd [(S.fld c, v)]) → W (.ref (S.ca c)) (some dx) H'
  | .stuck => False
theorem AftO.bind {r : Res (Option Int)} {k : Option Int → Hea → Res Val} {Q : VK} (a : Aft S ρ H (r.bind k) Q W) : AftO S ρ H r (fun l H1 => ∃ ρ1 h1, Go S ρ H ρ1 H1 ∧ Rel S ρ1 h1 H1 ∧ Aft S ρ1 H1 (k l h1) Q W) W := by
  cases r with
  | ok l h => exact fun ρ1 H1 s R => ⟨ρ1, h, s, R, Aft.later (r := k l h) a s⟩
  | exc c d h => exact a
  | stuck => exact a
theorem AftO.bindL {r : Res (Option Int)} {k : Option Int → Hea → Res (List Val)} {Q : VK} (a : AftL S ρ H (r.bind k) Q W) : AftO S ρ H r (fun l H1 => ∃ ρ1 h1, Go S ρ H ρ1 H1 ∧ Rel S ρ1 h1 H1 ∧ AftL S ρ1 H1 (k l h1) Q W) W := by
  cases r with
  | ok l h => exact fun ρ1 H1 s R => ⟨ρ1, h, s, R, AftL.later (r := k l h) a s⟩
  | exc c d h => exact a
  | stuck => exact a
theorem AftO.mono {r : Res (Option Int)} {Q Q' : Option Int → Hp → Prop} (a : AftO S ρ H r Q W) (h : ∀ v H', Q v H' → Q' v H') : AftO S ρ H r Q' W := by
  cases r with
  | ok l h1 => exact fun ρ1 H1 s R => h _ _ (a ρ1 H1 s R)
  | exc c d h => exact a
  | stuck => exact a
end
section
variable {T : Tb} {X : Cx} {W : WX} {a : Expr} {lo hi : Option Expr} {f : En → Hea → Res Val} {l u : Option (En → Hea → Res Val)} {p2 pos : Pos}
/-- xs[lo:hi] of a list, to be used at once -/
theorem sl_cut (ha : SE T X W a f) (hl : PO X lo (tO (sy T X) W l)) (hu : PO X hi (tO (sy T X) W u)) : SL T X W (.Subscript a (.Slice lo hi none p2) pos) (lCut f l u) :=
  (pe_slice L2.sl_list ha hl hu).imp fun σ H Q q => by
    obtain ⟨ρ, e, h, R, E, a⟩ := q
    unfold lCut at a
    refine ⟨ρ, e, h, R, E, (AftL.bind1 a).mono fun v H1 ⟨ρ1, d, h1, s, R1, r1, a1⟩ => ⟨ρ1, e, h1, R1, E.go s, (AftO.bindL a1).mono fun lv H2 ⟨ρ2, h2, s2, R2, a2⟩ => ⟨ρ2, e, h2, R2, (E.go s).go s2, (AftO.bindL a2).mono fun uv H3 ⟨ρ3, h3, s3, R3, a3⟩ => ?_⟩⟩⟩
    split at a3
    · rename_i xs hx
      obtain ⟨p, vs, ev, sq, rr⟩ := R3.lstV ((r1.go s2).go s3) hx
      exact ⟨p, vs, ev, sq, fun l n => a3.made R3 (rr.slc lv uv) l n⟩
    · exact a3.elim
theorem cutL_whole {xs : List Val} {l u : Option Int} (h : HT.sIx xs.length 0 l = 0 ∧ HT.sIx xs.length xs.length u = xs.length) : cutL xs l u = xs := by
  unfold cutL
  rw [h.1, h.2]
  simp
end
end Lad
end
section
set_option maxRecDepth 100000
set_option maxHeartbeats 2000000
namespace Lad
open PySem L2
open PySem.W (Frag)
def fdOf (K : Frag) (f : Addr) : FuncData := match K.lookup f with
  | some ⟨_, _, .func fd, _⟩ => fd
  | _ => PySem.W.fnOf "" "" ⟨[], [], none, [], [], none, []⟩ [] ⟨.function, [], false, false, []⟩ .none .none .none .none none .none .none
/-- an own error class with an __init__ of the known shape -/
structure ErD where
  cls : Str
  st : Stmt
  qual : Str
  fld : Str
def erI (K : Frag) (d : ErD) : Addr := He.ma K (He.ga K d.cls) "__init__"
def erW (K : Frag) (d : ErD) : He.FnW := match K.lookup (erI K d) with
  | some ⟨_, _, .func fd, _⟩ => some (fd.name, fd.qualname, fd.params, fd.body, fd.scope, fd.globals, fd.closure.map (fun p => (p.1, 0)), fd.builtins)
  | _ => none
def ErD.val (d : ErD) : He.FnW := some ("__init__", d.qual, defArgs d.st, .stmts (defBody d.st), defScope d.st, mainGlobals, [("__class__", 0)], builtinsNs)
def erCda (K : Frag) (d : ErD) : Addr := match K.lookup (erI K d) with
  | some ⟨_, _, .func fd, _⟩ => (match fd.code with | .ref a => a | _ => 0)
  | _ => 0
def erCc (K : Frag) (d : ErD) : Addr := match K.lookup (erI K d) with
  | some ⟨_, _, .func fd, _⟩ => (match fd.closure with | [(_, a)] => a | _ => 0)
  | _ => 0
def noneB : Value → Bool
  | .none => true
  | _ => false
def eqO (a b : Option (Option Value)) : Bool := decide (a = b)
def erB (file : Str) (B newId initId : String) (bmB : List Value) (K : Frag) (d : ErD) : Bool :=
  let C := He.ga K d.cls
  (match K.lookup (erI K d) with
    | some ⟨_, _, .func fd, _⟩ => noneB fd.defaults && (match fd.code, fd.closure with
      | .ref cda, [(_, cc)] => PySem.W.codeIn K (.ref cda) d.qual &&
        ((match K.lookup cda with
          | some ⟨_, _, .fields vs, _⟩ => (match (vs[2]? : Option Value) with
            | some (.str z _) => file == z
            | _ => false)
          | _ => false) &&
        (match K.lookup cc with
          | some ⟨_, _, .cell (some (.ref D)), _⟩ => decide (D = C)
          | _ => false))
      | _, _ => false)
    | _ => false) &&
  (PySem.W.excInitIn K C bmB newId && (PySem.W.excOver K C bmB && (eqO (PySem.W.findIn K (.ref C) "__setattr__") (some (some (.builtin "object.__setattr__"))) &&
  (eqO (PySem.W.takerIn K C d.fld) (some none) && (eqO (PySem.W.findIn K (.ref C) "__init__") (some (some (.ref (erI K d)))) && (decide (PySem.W.typeIn K (.ref (erI K d)) = some (.type "function")) &&
  (PySem.W.keepIn K (.ref C) && (decide (PySem.W.subIn K (.ref C) (.type "BaseException") = some true) && (decide (PySem.W.subIn K (.ref C) (.type B) = some true) && (decide (PySem.W.typeIn K (.ref C) = some (.type "type")) &&
  (PySem.W.hasDictIn K C && (decide (PySem.W.mroIn K C (.ref C) = some true) && (eqO (PySem.W.nsIn K mainGlobals "super") (some none) && (eqO (PySem.W.nsIn K cStatics "thirdparty.any") (some none) &&
  eqO (PySem.W.ks_superIn K C C "__init__") (some (some (.builtin initId)))))))))))))))))
theorem eqO_ok {a b : Option (Option Value)} (h : eqO a b = true) : a = b := of_decide_eq_true h
theorem noneB_ok {v : Value} (h : noneB v = true) : v = .none := by
  cases v <;> first | rfl | exact absurd h Bool.false_ne_true
theorem ErD.txtM {P : Program} {K : Frag} {d : ErD} {B newId initId : String} {bmB : List Value} (kxs : PySem.W.KxsFacts B initId) (eb : MkFacts newId initId bmB) (sf : PySem.StoreFacts B bmB "object.__setattr__" "object") (ini : InitOk d.st d.fld)
    (hb : ∀ (kV doc pm : Value) (an : Option Addr) (cdv ct : Value) (cc : Addr) (u v : Value), bindArgs (PySem.W.ksFn "__init__" d.qual (defArgs d.st) (defBody d.st) (defScope d.st) .none kV doc pm an cdv ct cc) ⟨[u, v], []⟩ = pure ([("self", u), (d.fld, v)] : List (Str × Value)))
    (top : (P.main.scope.names.lookup ("super" : Str)).isSome = false) (e : erW K d = d.val) (c : erB P.main.file B newId initId bmB K d = true) :
    ExTxt P K d.st (He.ga K d.cls) (erI K d) (erCc K d) (erCda K d) (fdOf K (erI K d)) B newId initId bmB d.fld := by
  unfold erB at c
  simp only [Bool.and_eq_true] at c
  obtain ⟨c0, c1, c2, c3, c4, c5, c6, c7, c8, c9, c10, c11, c12, c13, c14, c15⟩ := c
  unfold erW at e
  cases q : K.lookup (erI K d) with
  | none => rw [q] at c0; exact absurd c0 Bool.false_ne_true
  | some o =>
    obtain ⟨oc, od, dt, osl⟩ := o
    rw [q] at c0 e
    cases dt with
    | func fd =>
      obtain ⟨n1, n2, n3, n4, n5, n6, n7, n8, n9, n10, n11, n12, n13, n14, n15⟩ := fd
      have e2 : (some (n1, n2, n3, n4, n5, n6, n7.map (fun p => (p.1, 0)), n15) : He.FnW) = (some ("__init__", d.qual, defArgs d.st, .stmts (defBody d.st), defScope d.st, mainGlobals, [("__class__", 0)], builtinsNs) : He.FnW) := e
      simp only [Option.some.injEq, Prod.mk.injEq] at e2
      obtain ⟨h1, h2, h3, h4, h5, h6, h7, h8⟩ := e2
      subst h1 h2 h3 h4 h5 h6 h8
      dsimp only at c0
      obtain ⟨k1, k2⟩ := Bool.and_eq_true_iff.mp c0
      obtain rfl := noneB_ok k1
      match n7, h7 with
      | [(nm, cc)], h7 =>
        have e7 : nm = "__class__" := by
          have h8 : ((nm, 0) : Str × Addr) = ((("__class__" : Str), 0) : Str × Addr) := (List.cons.inj h7).1
          exact (Prod.mk.inj h8).1
        subst e7
        cases n13 with
        | ref cda =>
          dsimp only at k2
          obtain ⟨k2, k34⟩ := Bool.and_eq_true_iff.mp k2
          obtain ⟨k3, k4⟩ := Bool.and_eq_true_iff.mp k34
          have efd : fdOf K (erI K d) = PySem.W.ksFn "__init__" d.qual (defArgs d.st) (defBody d.st) (defScope d.st) .none n9 n10 n11 n12 (.ref cda) n14 cc := by unfold fdOf; rw [q]
          have ecd : erCda K d = cda := by unfold erCda; rw [q]
          have ecc : erCc K d = cc := by unfold erCc; rw [q]
          rw [efd, ecd, ecc]
          refine ⟨kxs, eb, sf, ini, c1, c2, eqO_ok c3, eqO_ok c4, eqO_ok c5, of_decide_eq_true c6, c7, of_decide_eq_true c8, of_decide_eq_true c9, of_decide_eq_true c10, c11, of_decide_eq_true c12, eqO_ok c13, eqO_ok c14, eqO_ok c15,
            ⟨_, _, _, _, _, _, _, _, _, _, rfl, q, k2⟩, fun s x v => BindsTo.of_eq (hb _ _ _ _ _ _ _ _ _), ?_, ?_, top⟩
          · split at k3
            · rename_i lk
              split at k3
              · rename_i hv
                exact ⟨_, _, _, _, _, _, lk, hv, k3⟩
              · exact absurd k3 Bool.false_ne_true
            · exact absurd k3 Bool.false_ne_true
          · split at k4
            · rename_i lk
              obtain rfl := of_decide_eq_true k4
              exact ⟨_, _, _, lk⟩
            · exact absurd k4 Bool.false_ne_true
        | _ => exact absurd k2 Bool.false_ne_true
    | _ => exact absurd c0 Bool.false_ne_true
/-- a caught error's class: attributes, isinstance -/
theorem ErD.txt {P : Program} {K : Frag} {d : ErD} {B newId initId : String} {bmB : List Value} (kxs : PySem.W.KxsFacts B initId) (eb : PySem.ExcBaseFacts B newId initId bmB) (sf : PySem.StoreFacts B bmB "object.__setattr__" "object") (ini : InitOk d.st d.fld)
    (hb : ∀ (kV doc pm : Value) (an : Option Addr) (cdv ct : Value) (cc : Addr) (u v : Value), bindArgs (PySem.W.ksFn "__init__" d.qual (defArgs d.st) (defBody d.st) (defScope d.st) .none kV doc pm an cdv ct cc) ⟨[u, v], []⟩ = pure ([("self", u), (d.fld, v)] : List (Str × Value)))
    (top : (P.main.scope.names.lookup ("super" : Str)).isSome = false) (e : erW K d = d.val) (c : erB P.main.file B newId initId bmB K d = true) :
    ExTxt P K d.st (He.ga K d.cls) (erI K d) (erCc K d) (erCda K d) (fdOf K (erI K d)) B newId initId bmB d.fld := ErD.txtM kxs (.of eb) sf ini hb top e c
def excB (K : Frag) (C : Addr) : Bool := xfB K C && (eqO (PySem.W.findIn K (.ref C) "__class__") (some (some (.builtin "object.__class__"))) && (eqO (PySem.W.specialIn K (.builtin "object.__class__") "__get__") (some (some (.builtin "getset_descriptor.__get__"))) &&
  (decide (PySem.W.takesIn K (.builtin "object.__class__") = some true) && decide (PySem.W.mroIn K C (.type "object") = some true))))
theorem excB_ok {K : Frag} {C : Addr} (h : excB K C = true) : XfC K C ∧ ExcC K C := by
  unfold excB at h
  simp only [Bool.and_eq_true] at h
  obtain ⟨h0, h1, h2, h3, h4⟩ := h
  have x := xfB_ok h0
  exact ⟨x, ⟨x.ga, x.gg, x.exC, x.hdC, eqO_ok h1, eqO_ok h2, of_decide_eq_true h3, of_decide_eq_true h4⟩⟩
theorem fun_of {K : Frag} {d : He.DefD} {x qual : Str} {st : Stmt} (hd : d = ⟨d.at_, x, qual, defArgs st, defBody st, defScope st, [], []⟩) (e : He.fnW K d.at_ = d.val) (c : d.ok K = true) : Fun K x qual st (He.fAd K d.at_) (fdOf K (He.fAd K d.at_)) := by
  obtain ⟨fd, F⟩ := He.DefD.funD e c
  obtain ⟨oc, od, dV, kV, doc, pm, an, cdv, ct, osl, rfl, lk, hcd, hdf, _⟩ := F.ex
  have dn : dV = .none := by
    rcases hdf with ⟨_, h⟩ | ⟨h, _⟩
    · exact h
    · rw [hd] at h
      exact absurd rfl h
  subst dn
  have ef : fdOf K (He.fAd K d.at_) = PySem.W.fnOf d.name d.qual d.params d.body d.scope .none kV doc pm an cdv ct := by unfold fdOf; rw [lk]
  rw [ef]
  obtain ⟨at_, _, _, _, _, _, _, _⟩ := d
  cases hd
  exact ⟨⟨oc, od, kV, doc, pm, an, cdv, ct, osl, rfl, lk, hcd⟩, F.kp⟩
abbrev Chk : Type := Frag → Bool
abbrev AlL : Type := Bool × List He.FnW × List He.FnW
def obsL (fa : List Chk) (fn : List He.DefD) (er : List ErD) (K : Frag) : AlL := ((fa.all fun f => f K) && fn.all fun d => d.ok K, fn.map fun d => He.fnW K d.at_, er.map fun d => erW K d)
def valL (fn : List He.DefD) (er : List ErD) : AlL := (true, fn.map He.DefD.val, er.map ErD.val)
def SaysL (fa : List Chk) (fn : List He.DefD) (er : List ErD) (K : Frag) : Prop := obsL fa fn er K = valL fn er
section
variable {fa : List Chk} {fn : List He.DefD} {er : List ErD} {K : Frag}
theorem SaysL.fact (c : SaysL fa fn er K) (i : Nat) {f : Chk} (h : fa[i]? = some f := by rfl) : f K = true := by
  have c1 := (Bool.and_eq_true_iff.mp (show ((fa.all fun f => f K) && fn.all fun d => d.ok K) = true from congrArg (fun z : AlL => z.1) c)).1
  exact List.all_eq_true.mp c1 f (List.mem_of_getElem? h)
theorem SaysL.fn_ (c : SaysL fa fn er K) (i : Nat) {d : He.DefD} (h : fn[i]? = some d) : He.fnW K d.at_ = d.val ∧ d.ok K = true := by
  have c2 := (Bool.and_eq_true_iff.mp (show ((fa.all fun f => f K) && fn.all fun d => d.ok K) = true from congrArg (fun z : AlL => z.1) c)).2
  have e : fn.map (fun d => He.fnW K d.at_) = fn.map He.DefD.val := congrArg (fun z : AlL => z.2.1) c
  have e2 : (fn.map fun d => He.fnW K d.at_)[i]? = (fn.map He.DefD.val)[i]? := by rw [e]
  rw [List.getElem?_map, List.getElem?_map, h] at e2
  exact ⟨Option.some.inj e2, List.all_eq_true.mp c2 d (List.mem_of_getElem? h)⟩
theorem SaysL.er_ (c : SaysL fa fn er K) (i : Nat) {d : ErD} (h : er[i]? = some d) : erW K d = d.val := by
  have e : er.map (fun d => erW K d) = er.map ErD.val := congrArg (fun z : AlL => z.2.2) c
  have e2 : (er.map fun d => erW K d)[i]? = (er.map ErD.val)[i]? := by rw [e]
  rw [List.getElem?_map, List.getElem?_map, h] at e2
  exact Option.some.inj e2
end
end Lad
end
section
set_option maxRecDepth 100000
set_option maxHeartbeats 2000000
namespace Lad
open PySem L2
open PySem.W (Frag)
structure SmD where
  at_ : Str × Str
  name : Str
  qual : Str
  st : Stmt
def SmD.val (d : SmD) : He.FnW := some (d.name, d.qual, defArgs d.st, .stmts (defBody d.st), defScope d.st, mainGlobals, [], builtinsNs)
end Lad
end
section
set_option maxRecDepth 100000
set_option maxHeartbeats 1000000
namespace Lad
open PySem L2
open PySem.W (Frag)
def obsLX (as : List Addr) (fa : List Chk) (fn : List He.DefD) (er : List ErD) (g : Addr → Option Obj) : AlL := obsL fa fn er (He.frG g as)
def hookLX (as : List Addr) (fa : List Chk) (fn : List He.DefD) (er : List ErD) : PySem.W.Hook where
  α := AlL
  obs := fun s => obsLX as fa fn er s.heap.get?
  val := fun _ => valL fn er
  says := fun _ h => ∃ K : Frag, K.In h ∧ SaysL fa fn er K
  of := fun _ _ e => ⟨_, He.frG_in, e⟩
  keeps := fun _ _ _ ⟨K, hK, c⟩ k => ⟨K, PySem.W.Frag.In.keeps hK k, c⟩
theorem obsLX_eq {as : List Addr} {fa : List Chk} {fn : List He.DefD} {er : List ErD} {g : Addr → Option Obj} {s : Shared} (h : ∀ a, g a = s.heap.get? a) : obsLX as fa fn er g = (hookLX as fa fn er).obs s := by
  have e : g = s.heap.get? := funext h
  rw [e] <;> rfl
end Lad
end
section
set_option maxRecDepth 100000
set_option maxHeartbeats 2000000
namespace Lad
open PySem
def enO (it : Addr) : Obj := { cls := .type "enumerate", data := .fields #[.none, .bool false, .ref it, rawInt 0, .none, .none] }
theorem meets_en1 {v : Value} {o : Obj} {H : Heap → Prop} (B : Begins v o H) : Meets (Builtin.«enumerate.__new__» ⟨[.type "enumerate", v], []⟩)
    (fun _ R s => H s.heap ∧ R (.ok (.ret (.ref (s.heap.push o).objs.size))) { s with heap := (s.heap.push o).push (enO s.heap.objs.size) }) :=
  .of_wp fun prog w A R s h => by
    obtain ⟨hp, gs, dr, tk, os⟩ := s
    obtain ⟨h1, h⟩ := h
    have hsub := sub_enumerate
    have itq : ∀ {A' : Around} {E : Value → Shared → Prop} {Q : Value → Shared → Prop}, Q (.ref hp.objs.size) ⟨hp.push o, gs, dr, tk, os⟩ → wpAny (model prog w) A' (pyIter v) Q E ⟨hp, gs, dr, tk, os⟩ := fun z => B.iter prog w _ _ ⟨hp, gs, dr, tk, os⟩ _ h1 z
    wp_walk using itq
    refine wpAny_stack_any fun st => wpAny_pure ?_
    split
    · rename_i c _ _ _ _ _
      cases (c == Value.type "enumerate") <;> (wp_walk using itq; exact ⟨_, rfl, h⟩)
    · wp_walk using itq
      exact ⟨_, rfl, h⟩
section
variable {prog : Program} {w : World} {A : Around} {E : Value → Shared → Prop} {s : Shared}
theorem call_en1 {v : Value} {o : Obj} {H : Heap → Prop} {Q : Value → Shared → Prop} (B : Begins v o H) (h1 : H s.heap)
    (h : ∀ h', IsEnum h' (s.heap.objs.size + 1) s.heap.objs.size 0 .none → h'.get? s.heap.objs.size = some o → (∀ b u, s.heap.get? b = some u → h'.get? b = some u) → Q (.ref (s.heap.objs.size + 1)) { s with heap := h' }) :
    wpAny (model prog w) A (call (.type "enumerate") [v]) Q E s := by
  have sz : (s.heap.push o).objs.size = s.heap.objs.size + 1 := Heap.size_push ..
  have here : IsEnum ((s.heap.push o).push (enO s.heap.objs.size)) (s.heap.objs.size + 1) s.heap.objs.size 0 .none := by
    have z := Heap.get?_push_size (s.heap.push o) (o := enO s.heap.objs.size) rfl
    rw [sz] at z
    exact z
  refine callType_new F.called_enumerate (by decide) (F.typeCall_enumerate_1 _) (F.newCall_enumerate_1 _) (fun ob => F.args_object_init_2 ob _) F.entry_enumerate_new (meets_en1 B) ⟨h1, ?_⟩
  show _ ∧ _
  rw [sz]
  exact ⟨⟨_, here, rfl⟩, h _ here (Heap.get?_push_of_some _ (Heap.get?_push_size _ B.free)) fun b u z => Heap.get?_push_of_some _ (Heap.get?_push_of_some _ z)⟩
end
open L2 PySem.Spec PyProof.Rows
inductive ZK where
  | L | T
def ZK.sq : ZK → PySem.W.Frag → Hp → Addr → List V → Prop
  | .L => SqL
  | .T => SqT
def ZK.itr : ZK → Heap → Addr → Addr → Nat → Prop
  | .L => Heap.IsListIter
  | .T => Heap.IsTupleIter
def ZK.here : ZK → Heap → Addr → Array Value → Prop
  | .L => Heap.IsList
  | .T => Heap.IsTuple
def ZK.obj : ZK → Addr → Obj
  | .L, a => { cls := .type "list_iterator", data := .fields #[.ref a, .int 0 0] }
  | .T, a => { cls := .type "tuple_iterator", data := .fields #[.ref a, .int 0 0] }
section
variable {P : Program} {w : World} {A : Around} {K : PySem.W.Frag}
theorem ZK.begins : ∀ (k : ZK) (a : Addr) (its : Array Value), Begins (.ref a) (k.obj a) (fun h => k.here h a its)
  | .L, a, its => begins_list a its
  | .T, a, its => begins_tuple a its
theorem ZK.draws (hh : A.handled = none) : ∀ (k : ZK) (it a : Addr), a ≠ it → ∀ its : Array Value, Draws P w A it [it, a] its.size (fun i v => its[i]? = some v) (fun i h => k.itr h it a i ∧ k.here h a its)
  | .L, it, a, ne, its => Draws.list hh it a ne its
  | .T, it, a, ne, its => Draws.tuple hh it a ne its
theorem ZK.start : ∀ {k : ZK} {h : Heap} {it a : Addr}, h.get? it = some (k.obj a) → k.itr h it a 0
  | .L, _, _, _, e => ⟨_, e, rfl, rfl⟩
  | .T, _, _, _, e => ⟨_, e, rfl, rfl⟩
theorem ZK.stay : ∀ {k : ZK} {h h' : Heap} {it a : Addr} {i : Nat}, k.itr h it a i → (∀ o, h.get? it = some o → h'.get? it = some o) → k.itr h' it a i
  | .L, _, _, _, _, _, x, q => x.at q
  | .T, _, _, _, _, _, x, q => x.at q
theorem ZK.lives : ∀ {k : ZK} {h : Heap} {it a : Addr} {i : Nat}, k.itr h it a i → ∃ o, h.get? it = some o ∧ ∀ v, o.data ≠ .cell v
  | .L, _, _, _, _, ⟨o, e, _, d⟩ => ⟨o, e, fun v z => by rw [d] at z; cases z⟩
  | .T, _, _, _, _, ⟨o, e, _, d⟩ => ⟨o, e, fun v z => by rw [d] at z; cases z⟩
theorem ZK.read {X : Cx} {pins : List (Addr × Obj)} {σ : L2.St} {H : Hp} {s : Shared} (I : Inv X pins σ H s) : ∀ {k : ZK} {a : Addr} {xs : List V}, k.sq X.K H a xs → ∃ its : List Value, Vals xs its ∧ k.here s.heap a its.toArray ∧ a < s.heap.objs.size
  | .L, a, xs, q => by
    obtain ⟨its, rv, p, _⟩ := I.list q
    exact ⟨its, rv, p.isList, p.lt⟩
  | .T, a, xs, q => by
    obtain ⟨its, rv, p, _⟩ := I.tuple q
    obtain ⟨o, e, _⟩ := id p
    exact ⟨its, rv, p, Heap.lt_size e⟩
theorem ZK.one {X : Cx} {pins : List (Addr × Obj)} {σ : L2.St} {H : Hp} {s : Shared} (I : Inv X pins σ H s) : ∀ {k : ZK} {a : Addr} {xs ys : List V}, k.sq X.K H a xs → k.sq X.K H a ys → xs = ys
  | .L, _, _, _, p, q => I.list_inj p q
  | .T, _, _, _, p, q => I.tuple_inj p q
def ItzM (K : PySem.W.Frag) (k1 k2 : ZK) (a b : Addr) : It where
  go := fun i H => ∃ (xs ys : List V) (x y : V), k1.sq K H a xs ∧ k2.sq K H b ys ∧ xs[i]? = some x ∧ ys[i]? = some y
  yld := fun i H v H' => ∃ t x y ob, v = .ref t ∧ H t = none ∧ ob.dict = none ∧ H' = upd H t (.frz ob (.tup [x, y])) ∧ (∀ xs, k1.sq K H a xs → xs[i]? = some x) ∧ (∀ ys, k2.sq K H b ys → ys[i]? = some y)
  stop := fun i H => ∃ xs ys : List V, k1.sq K H a xs ∧ k2.sq K H b ys ∧ i ≤ xs.length ∧ i ≤ ys.length ∧ (i = xs.length ∨ i = ys.length)
theorem turn_zm {elts : List Expr} {kk : Nat} {tpos : Pos} {k1 k2 : ZK} {a b n : Addr} (ha : a < n) (hb : b < n) :
    Turn P w K (.Tuple elts kk tpos) (ItzM K k1 k2 a b) [n + 4, n + 2, n + 3, n, n + 1] (n + 4) (fun i h => IsZip h (n + 4) (n + 2) (n + 3) .none ∧ IsTupOf2 h (n + 2) (.ref n) (.ref (n + 1)) ∧ (∃ x y, IsTupOf2 h (n + 3) x y) ∧ k1.itr h n a i ∧ k2.itr h (n + 1) b i) where
  mem := by simp
  obj := by
    rintro i h ⟨z1, z2, ⟨x, y, z3⟩, j1, j2⟩ c hc
    rcases (show c = n + 4 ∨ c = n + 2 ∨ c = n + 3 ∨ c = n ∨ c = n + 1 by simpa using hc) with rfl | rfl | rfl | rfl | rfl
    · exact ⟨_, z1, fun v z => nomatch z⟩
    · exact ⟨_, z2, fun v z => nomatch z⟩
    · exact ⟨_, z3, fun v z => nomatch z⟩
    · exact ZK.lives (k := k1) j1
    · exact ZK.lives (k := k2) j2
  keep := by
    rintro i h h' ⟨z1, z2, ⟨x, y, z3⟩, j1, j2⟩ k
    exact ⟨k _ (by simp) _ z1, k _ (by simp) _ z2, ⟨x, y, k _ (by simp) _ z3⟩, ZK.stay (k := k1) j1 fun o z => k _ (by simp) o z, ZK.stay (k := k2) j2 fun o z => k _ (by simp) o z⟩
  item := by
    intro X eP ew eK hc i pins s σ H E I hf st hg
    subst eP ew eK
    obtain ⟨z1, z2, ⟨x0, y0, z3⟩, j1, j2⟩ := st
    obtain ⟨xs, ys, x, y, q1, q2, e1, e2⟩ := hg
    obtain ⟨us, r1, p1, _⟩ := ZK.read I q1
    obtain ⟨vs, r2, p2, _⟩ := ZK.read I q2
    obtain ⟨u, hu, ru⟩ := r1.get e1
    obtain ⟨v, hv, rv⟩ := r2.get e2
    have l1 : i < us.toArray.size := by simpa using (List.getElem?_eq_some_iff.mp hu).1
    have l2 : i < vs.toArray.size := by simpa using (List.getElem?_eq_some_iff.mp hv).1
    have D1 := ZK.draws (P := X.prog) (w := X.w) (A := X.A.in1) (I.ok.hd hc) k1 n a (Nat.ne_of_lt ha) us.toArray
    have D2 := ZK.draws (P := X.prog) (w := X.w) (A := X.A.in1) (I.ok.hd hc) k2 (n + 1) b (Nat.ne_of_lt (Nat.lt_succ_of_lt hb)) vs.toArray
    have sep : ZipSep2 (n + 4) (n + 2) (n + 3) n (n + 1) [n, a] [n + 1, b] := zip_sep2 (N := n) (fp1 := [a]) (fp2 := [b]) (by simpa using ha) (by simpa using hb)
    have lz : (n + 4 : Nat) < s.heap.objs.size := Heap.lt_size z1
    refine wpAny_pyNext_zipD2_item sep D1 D2 z1 z2 z3 ⟨j1, p1⟩ ⟨j2, p2⟩ l1 l2 fun u' v' h1 tk eu ev w1 w3 w4 w5 w6 sz k => ?_
    have eu : u' = u := by
      have : us.toArray[i]? = some u := by simpa using hu
      exact (Option.some.inj (this.symm.trans eu)).symm
    have ev : v' = v := by
      have : vs.toArray[i]? = some v := by simpa using hv
      exact (Option.some.inj (this.symm.trans ev)).symm
    subst eu ev
    refine ⟨_, rfl, wpAny_letOwnedTupleGo_zip (s := { s with heap := h1, toks := tk }) w1 fun h2 w1' sb => ?_⟩
    have bz : ∀ c o, c ≠ (n + 4 : Nat) → h1.get? c = some o → h2.get? c = some o := fun c o ne z => (sb.2 c ne).trans z
    have kz : ∀ c o, c ∉ [(n + 4 : Nat), n + 2, n + 3, n, n + 1] → s.heap.get? c = some o → h2.get? c = some o := fun c o ne z =>
      bz c o (fun q => ne (by simp [q])) (k c o (fun q => ne (by simp [q])) (fun q => ne (by simp [q])) (fun q => ne (by simp [q])) (fun q => ne (by simp [q])) z)
    have hT : IsTupOf2 h2 s.heap.objs.size u' v' := bz _ _ (Nat.ne_of_gt lz) w6
    have nw : ObjOk X.prog X.w (upd H s.heap.objs.size (.frz (tuO [u', v']) (.tup [x, y]))) h2 s.heap.objs.size (.frz (tuO [u', v']) (.tup [x, y])) := ⟨hT, by show 2 ≤ sizeLine; decide, [u', v'], .cons ru (.cons rv .nil), ⟨_, hT, rfl, _, rfl⟩⟩
    have J := I.turnedNew (t' := tk) (ch := [n + 4, n + 2, n + 3, n, n + 1]) (fun c o hb q => kz c o hb q) hf (Nat.le_refl _) nw
    refine ⟨.ref s.heap.objs.size, _, J, rfl, ⟨_, x, y, _, rfl, I.hok.fresh (Nat.le_refl _), rfl, rfl, fun l hl => by rw [ZK.one I hl q1]; exact e1, fun l hl => by rw [ZK.one I hl q2]; exact e2⟩, ⟨w1', ?_, ⟨u', v', ?_⟩, ?_, ?_⟩, fun c hcm => ?_⟩
    · exact bz _ _ sep.TIz (k _ _ sep.TIz sep.TITO sep.TIi1 sep.TIi2 z2)
    · exact bz _ _ sep.TOz w3
    · exact ZK.stay (k := k1) w4.1 fun o z => bz _ o (Ne.symm sep.zi1) z
    · exact ZK.stay (k := k2) w5.1 fun o z => bz _ o (Ne.symm sep.zi2) z
    · have lt : c < s.heap.objs.size := by
        have : (c : Nat) ≤ n + 4 := by
          rcases (show c = n + 4 ∨ c = n + 2 ∨ c = n + 3 ∨ c = n ∨ c = n + 1 by simpa using hcm) with e | e | e | e | e <;> (rw [e]; show (_ : Nat) ≤ n + 4; omega)
        exact Nat.lt_of_le_of_lt this lz
      rw [upd_ne (Nat.ne_of_lt lt)]
      exact (hf c hcm).1
  done := by
    intro X eP ew eK hc i pins s σ H E I hf st hg
    subst eP ew eK
    obtain ⟨z1, z2, ⟨x0, y0, z3⟩, j1, j2⟩ := st
    obtain ⟨xs, ys, q1, q2, n1, n2, en⟩ := hg
    obtain ⟨us, r1, p1, _⟩ := ZK.read I q1
    obtain ⟨vs, r2, p2, _⟩ := ZK.read I q2
    have D1 := ZK.draws (P := X.prog) (w := X.w) (A := X.A.in1) (I.ok.hd hc) k1 n a (Nat.ne_of_lt ha) us.toArray
    have D2 := ZK.draws (P := X.prog) (w := X.w) (A := X.A.in1) (I.ok.hd hc) k2 (n + 1) b (Nat.ne_of_lt (Nat.lt_succ_of_lt hb)) vs.toArray
    have sep : ZipSep2 (n + 4) (n + 2) (n + 3) n (n + 1) [n, a] [n + 1, b] := zip_sep2 (N := n) (fp1 := [a]) (fp2 := [b]) (by simpa using ha) (by simpa using hb)
    have m1 : us.toArray.size = xs.length := by rw [List.size_toArray, r1.length]
    have m2 : vs.toArray.size = ys.length := by rw [List.size_toArray, r2.length]
    refine wpAny_pyNext_zipD2_end sep D1 D2 z1 z2 z3 ⟨j1, p1⟩ ⟨j2, p2⟩ (by omega) (by omega) (by omega) fun h1 tk k => ⟨rfl, ?_⟩
    exact I.turnedL (t' := tk) (ch := [n + 4, n + 2, n + 3, n, n + 1]) (fun c o hb z => k c o (fun q => hb (by simp [q])) (fun q => hb (by simp [q])) (fun q => hb (by simp [q])) (fun q => hb (by simp [q])) z) hf
  self := fun A i s Q E st h => wpAny_pyIter_zip st.1 h
end
def iZm (K : PySem.W.Frag) (k1 k2 : ZK) (ta : TA) : TI := fun σ H R => ta σ H fun vs H1 => ∃ a b xs ys, vs = [.ref a, .ref b] ∧ k1.sq K H1 a xs ∧ k2.sq K H1 b ys ∧ R (ItzM K k1 k2 a b) H1
theorem pi_zm (k1 k2 : ZK) {X : Cx} {e e2 : Expr} {ta : TA} {p pos tpos : Pos} {elts : List Expr} {kk : Nat} (hg : Gl X "zip") (hm : X.mg "zip" = none) (ha : PA X [e, e2] ta)
    (hs : starEach [e, e2] X.env = (false, eval e X.env) :: starEach [e2] X.env := by rfl) (hpl : (backTo pos (starEach [e2] X.env)).any (·.1) = false := by rfl) :
    PI X (.Tuple elts kk tpos) (.Call (.Name "zip" p) [e, e2] [] pos) (iZm X.K k1 k2 ta) := by
  refine ⟨?_⟩
  intro pins s σ H R I hw
  have given := ha.run pos pins s σ H _ I hw
  refine Call_ (ld_blt I hg hm PyProof.Rows.boot_zip (PyProof.Rows.callWith_type1 (thn given ?_) hs hpl))
  rintro us s1 ⟨vs, H1, I1, r1, a, b, xs, ys, rfl, q1, q2, q⟩
  match us, r1 with
  | [u, v], .cons ru (.cons rv .nil) =>
    have eu : u = Value.ref a := ru
    have ev : v = Value.ref b := rv
    subst eu ev
    obtain ⟨is, _, p1, la⟩ := ZK.read I1 q1
    obtain ⟨js, _, p2, lb⟩ := ZK.read I1 q2
    refine zip_begins2 (k1.begins a is.toArray) (k2.begins b js.toArray) p1 p2 fun h' z1 z2 z3 o1 o2 sz k => wpAny_pyIter_zip z1 ?_
    have I2 : Inv X pins σ H1 { s1 with heap := h' } := I1.kept (t' := s1.toks) k
    refine ⟨_, _, _, _, H1, rfl, I2, turn_zm (n := s1.heap.objs.size) la lb, ⟨z1, z2, ⟨_, _, z3⟩, ZK.start o1, ZK.start o2⟩, fun c hc => ?_, q⟩
    have le : s1.heap.objs.size ≤ c := by
      rcases (show c = s1.heap.objs.size + 4 ∨ c = s1.heap.objs.size + 2 ∨ c = s1.heap.objs.size + 3 ∨ c = s1.heap.objs.size ∨ c = s1.heap.objs.size + 1 by simpa using hc) with e | e | e | e | e <;> (rw [e]; first | exact Nat.le_refl _ | exact Nat.le_add_right _ _)
    exact I1.fpOk le (I1.hok.fresh le)
open L2 PySem.Spec PyProof.Rows
/-- the list or tuple at a, each item in a new pair -/
def ItE (K : PySem.W.Frag) (k : ZK) (a : Addr) : It where
  go := fun i H => ∃ (xs : List V) (x : V), k.sq K H a xs ∧ xs[i]? = some x
  yld := fun i H v H' => ∃ T x ob, v = .ref T ∧ H T = none ∧ ob.dict = none ∧ H' = upd H T (.frz ob (.tup [.int (i : Nat), x])) ∧ ∀ xs, k.sq K H a xs → xs[i]? = some x
  stop := fun i H => ∃ xs : List V, k.sq K H a xs ∧ xs.length = i
theorem turn_en {P : Program} {w : World} {K : PySem.W.Frag} {elts : List Expr} {kk : Nat} {tpos : Pos} {kd : ZK} (a e it : Addr) (hai : a ≠ it) (hae : a ≠ e) :
    Turn P w K (.Tuple elts kk tpos) (ItE K kd a) [e, it] e (fun i h => (∃ old, IsEnum h e it ((i : Nat) : Int) old) ∧ kd.itr h it a i ∧ e ≠ it) where
  mem := by simp
  obj := by
    rintro i h ⟨⟨old, he⟩, hi, _⟩ b hb
    rcases (show b = e ∨ b = it by simpa using hb) with rfl | rfl
    · exact ⟨_, he, fun v q => nomatch q⟩
    · exact ZK.lives (k := kd) hi
  keep := by
    rintro i h h' ⟨⟨old, he⟩, hi, hne⟩ k
    exact ⟨⟨old, k e (by simp) _ he⟩, ZK.stay (k := kd) hi fun o q => k it (by simp) o q, hne⟩
  item := by
    intro X hP hw hK hc i pins s σ H E I hf st hg
    subst hP hw hK
    obtain ⟨⟨old, he⟩, hit, hne⟩ := st
    obtain ⟨xs, x, hq, hx⟩ := hg
    obtain ⟨its, rv, tp, _⟩ := ZK.read I hq
    obtain ⟨u, hu, ru⟩ := rv.get hx
    have hlt : i < its.toArray.size := by
      have := (List.getElem?_eq_some_iff.mp hu).1
      simpa using this
    have le : e < s.heap.objs.size := Heap.lt_size he
    have li : it < s.heap.objs.size := by
      obtain ⟨_, q, _⟩ := ZK.lives (k := kd) hit
      exact Heap.lt_size q
    have D := ZK.draws (P := X.prog) (w := X.w) (A := X.A.in1) (I.ok.hd hc) kd it a hai its.toArray
    refine wpAny_pyNext_enum_itemD D he ⟨hit, tp⟩ hlt hne (by simp [hne, Ne.symm hae]) fun y h' tk py ho hst' hT hsz hk => ?_
    have ey : y = u := by
      have z : its.toArray[i]? = some y := py
      have z2 : its.toArray[i]? = some u := by simpa using hu
      rw [z2] at z
      exact (Option.some.inj z).symm
    subst ey
    refine ⟨_, rfl, wpAny_letOwnedTupleGo_enum (s := { s with heap := h', toks := tk + 1 }) ho fun h'' he' sb => ?_⟩
    have hT2 : h''.get? s.heap.objs.size = some (tuO [.int i tk, y]) := (sb.2 _ (Nat.ne_of_gt le)).trans hT
    have nw : ObjOk X.prog X.w (upd H s.heap.objs.size (.frz (tuO [.int i tk, y]) (.tup [.int (i : Nat), x]))) h'' s.heap.objs.size (.frz (tuO [.int i tk, y]) (.tup [.int (i : Nat), x])) := ⟨hT2, by show 2 ≤ sizeLine; decide, [.int i tk, y], .cons ⟨_, rfl⟩ (.cons ru .nil), ⟨_, hT2, rfl, _, rfl⟩⟩
    have J := I.turnedNew (t' := tk + 1) (ch := [e, it]) (fun b ob hb q => (sb.2 b (fun z => hb (by simp [z]))).trans (hk b ob (fun z => hb (by simp [z])) (fun z => hb (by simp [z])) q)) hf (Nat.le_refl _) nw
    refine ⟨.ref s.heap.objs.size, _, J, rfl, ⟨_, x, _, rfl, I.hok.fresh (Nat.le_refl _), rfl, rfl, fun ys hy => by rw [ZK.one I hy hq]; exact hx⟩, ⟨⟨y, ?_⟩, ZK.stay (k := kd) hst'.1 fun o q => (sb.2 it (Ne.symm hne)).trans q, hne⟩, fun b hb => ?_⟩
    · rw [show ((i + 1 : Nat) : Int) = (i : Int) + 1 by omega]
      exact he'
    · have lb : b < s.heap.objs.size := by
        rcases (show b = e ∨ b = it by simpa using hb) with rfl | rfl
        · exact le
        · exact li
      rw [upd_ne (Nat.ne_of_lt lb)]
      exact (hf b hb).1
  done := by
    intro X hP hw hK hc i pins s σ H E I hf st hg
    subst hP hw hK
    obtain ⟨⟨old, he⟩, hit, hne⟩ := st
    obtain ⟨xs, hq, hx⟩ := hg
    obtain ⟨its, rv, tp, _⟩ := ZK.read I hq
    obtain ⟨f0, f1, f2, f3, f4, f5⟩ := hf it (by simp)
    have D := ZK.draws (P := X.prog) (w := X.w) (A := X.A.in1) (I.ok.hd hc) kd it a hai its.toArray
    have en : its.toArray.size = i := by rw [List.size_toArray, ← rv.length]; exact hx
    refine wpAny_pyNext_enum_endD D he ⟨by rw [en]; exact hit, tp⟩ fun h' eb => ?_
    exact ⟨rfl, I.turned (t' := s.toks) (fun b o hb q => eb b o hb q) f0 f1 f3 f4 f5⟩
  self := fun A i s Q E st h => let ⟨⟨_, he⟩, _⟩ := st; wpAny_pyIter_enum he h
def iEnZ (K : PySem.W.Frag) (k : ZK) (ta : TA) : TI := fun σ H R => ta σ H fun vs H1 => ∃ a xs, vs = [.ref a] ∧ k.sq K H1 a xs ∧ R (ItE K k a) H1
theorem pi_enZ (k : ZK) {X : Cx} {e : Expr} {ta : TA} {p pos tpos : Pos} {elts : List Expr} {kk : Nat} (hg : Gl X "enumerate") (hm : X.mg "enumerate" = none) (ha : PA X [e] ta) (hs : starEach [e] X.env = [(false, eval e X.env)] := by rfl) :
    PI X (.Tuple elts kk tpos) (.Call (.Name "enumerate" p) [e] [] pos) (iEnZ X.K k ta) := by
  refine ⟨?_⟩
  intro pins s σ H R I hw
  have given := ha.run pos pins s σ H _ I hw
  refine Call_ (ld_blt I hg hm boot_enumerate (PyProof.Rows.callWith_type1 (thn given ?_) hs rfl))
  rintro us s1 ⟨vs, H1, I1, r1, a, xs, rfl, hq, q⟩
  match us, r1 with
  | [u], .cons r .nil =>
    have eu : u = Value.ref a := r
    subst eu
    obtain ⟨its, rv, tp, la⟩ := ZK.read I1 hq
    refine call_en1 (k.begins a its.toArray) tp fun h' he hit hk => wpAny_pyIter_enum he ?_
    have I2 : Inv X pins σ H1 { s1 with heap := h' } := I1.kept (t' := s1.toks) hk
    have ti : k.itr h' s1.heap.objs.size a 0 := ZK.start hit
    refine ⟨s1.heap.objs.size + 1, [s1.heap.objs.size + 1, s1.heap.objs.size], _, _, H1, rfl, I2, turn_en a (s1.heap.objs.size + 1) s1.heap.objs.size (Nat.ne_of_lt la) (Nat.ne_of_lt (Nat.lt_succ_of_lt la)), ⟨⟨.none, he⟩, ti, Nat.succ_ne_self _⟩, fun b hb => ?_, q⟩
    have le : s1.heap.objs.size ≤ b := by
      rcases (show b = s1.heap.objs.size + 1 ∨ b = s1.heap.objs.size by simpa using hb) with rfl | rfl
      · exact Nat.le_add_right _ _
      · exact Nat.le_refl _
    exact I1.fpOk le (I1.hok.fresh le)
end Lad
end
section
set_option maxRecDepth 100000
set_option maxHeartbeats 2000000
namespace Lad
open PySem L2
open PySem.W (Frag)
def all2 {α β : Type} (f : α → β → Bool) : List α → List β → Bool
  | [], [] => true
  | a :: as, b :: bs => f a b && all2 f as bs
  | _, _ => false
def cstB : Nat → Frag → Val → Value → Bool
  | _, _, .non, .none => true
  | _, _, .bl b, .bool c => b == c
  | _, _, .int i, .int j _ => decide (i = j)
  | _, _, .str x, .str y _ => decide (x = y)
  | n + 1, K, .tup ds, .ref a => (match K.lookup a with
    | some ⟨.type c, none, .seq its _, _⟩ => decide (c = "tuple") && (decide (its.size ≤ sizeLine) && all2 (cstB n K) ds its.toList)
    | _ => false)
  | _, _, _, _ => false
def CstV (K : Frag) (d : Val) (u : Value) : Prop := ∃ v, RelV v u ∧ ∀ (S : Sy) (ρ : Own) (H : Hp), S.K = K → Rep S ρ H d v
theorem all2_cst {n : Nat} {K : Frag} (ih : ∀ (d : Val) (u : Value), cstB n K d u = true → CstV K d u) : ∀ (ds : List Val) (us : List Value), all2 (cstB n K) ds us = true → ∃ vs, Vals vs us ∧ ∀ (S : Sy) (ρ : Own) (H : Hp), S.K = K → Reps S ρ H ds vs
  | [], [], _ => ⟨[], .nil, fun _ _ _ _ => .nil⟩
  | [], _ :: _, h => by cases h
  | _ :: _, [], h => by cases h
  | d :: ds, u :: us, h => by
    obtain ⟨h1, h2⟩ := Bool.and_eq_true_iff.mp (show (cstB n K d u && all2 (cstB n K) ds us) = true from h)
    obtain ⟨v, r, q⟩ := ih d u h1
    obtain ⟨vs, rs, qs⟩ := all2_cst ih ds us h2
    exact ⟨v :: vs, .cons r rs, fun S ρ H e => .cons (q S ρ H e) (qs S ρ H e)⟩
theorem cstB_ok : ∀ (n : Nat) (K : Frag) (d : Val) (u : Value), cstB n K d u = true → CstV K d u := by
  intro n
  induction n with
  | zero =>
    intro K d u h
    unfold cstB at h
    split at h
    · exact ⟨.non, rfl, fun _ _ _ _ => .non⟩
    · obtain rfl := eq_of_beq h
      exact ⟨.bl _, rfl, fun _ _ _ _ => .bl _⟩
    · obtain rfl := of_decide_eq_true h
      exact ⟨.int _, ⟨_, rfl⟩, fun _ _ _ _ => .int _⟩
    · obtain rfl := of_decide_eq_true h
      exact ⟨.str _, ⟨_, rfl⟩, fun _ _ _ _ => .str _⟩
    · rename_i e; first | (exact absurd ‹0 = Nat.succ _› (by simp)) | (exact nomatch ‹0 = Nat.succ _›)
    · cases h
  | succ n ih =>
    intro K d u h
    unfold cstB at h
    split at h
    · exact ⟨.non, rfl, fun _ _ _ _ => .non⟩
    · obtain rfl := eq_of_beq h
      exact ⟨.bl _, rfl, fun _ _ _ _ => .bl _⟩
    · obtain rfl := of_decide_eq_true h
      exact ⟨.int _, ⟨_, rfl⟩, fun _ _ _ _ => .int _⟩
    · obtain rfl := of_decide_eq_true h
      exact ⟨.str _, ⟨_, rfl⟩, fun _ _ _ _ => .str _⟩
    · rename_i m ds a e
      cases e
      split at h
      · rename_i c its k osl lk
        simp only [Bool.and_eq_true] at h
        obtain ⟨h1, h2, h3⟩ := h
        have h1 := of_decide_eq_true h1
        have h2 := of_decide_eq_true h2
        subst h1
        obtain ⟨vs, rv, q⟩ := all2_cst (ih _) ds its.toList h3
        exact ⟨.ref a, rfl, fun S ρ H e => .tup (.inr ⟨_, its, k, by rw [e]; exact lk, rfl, rfl, rfl, h2, rv⟩) (q S ρ H e)⟩
      · cases h
    · cases h
/-- the module's name x stands for d -/
def conB (x : Str) (d : Val) (K : Frag) : Bool := match PySem.W.nsIn K mainGlobals x with
  | some (some u) => cstB 8 K d u
  | _ => false
def ConOk (K : Frag) (mg : Str → Option Value) (x : Str) (d : Val) : Prop := ∃ u, mg x = some u ∧ CstV K d u
theorem conB_ok {K : Frag} {h : Heap} {mg : Str → Option Value} {x : Str} {d : Val} (X : K.In h) (G : h.Ns mainGlobals mg) (c : conB x d K = true) : ConOk K mg x d := by
  unfold conB at c
  split at c
  · rename_i u e
    exact ⟨u, PySem.W.mg_of X G e, cstB_ok 8 K d u c⟩
  · cases c
section
variable {T : Tb} {X : Cx} {W : WX} {x : Str} {d : Val} {pos : Pos}
theorem se_con (c : ConOk X.K X.mg x d) (hg : Gl X x := by rfl) (hd : (x == ("__debug__" : Str)) = false := by decide) : SE T X W (.Name x pos) (eC d) := by
  obtain ⟨u, m, v, r, q⟩ := c
  exact se_cst (pe_glob hg m r hd) fun ρ H => q _ ρ H rfl
end
def enumV (xs : List Val) (k : Nat) : Option Val := xs[k]?.map fun x => Val.tup [.int (k : Nat), x]
def srcEnum (i : Nat) : Src := ⟨fun k h => (lstAt h i).bind fun xs => if k ≤ xs.length then some (enumV xs k) else none, 100000, none, fun _ h => nomatch h⟩
def enumFrom : Nat → List Val → List Val
  | _, [] => []
  | k, x :: xs => .tup [.int (k : Nat), x] :: enumFrom (k + 1) xs
theorem enumFrom_at : ∀ (xs : List Val) (j k : Nat), (enumFrom j xs)[k]? = xs[k]?.map fun x => Val.tup [.int ((j + k : Nat) : Int), x]
  | [], _, _ => rfl
  | x :: xs, j, 0 => rfl
  | x :: xs, j, k + 1 => by
    show (enumFrom (j + 1) xs)[k]? = xs[k]?.map _
    rw [enumFrom_at xs (j + 1) k]
    congr 1
    funext y
    have : j + 1 + k = j + (k + 1) := by omega
    rw [this]
theorem enumFrom_len : ∀ (xs : List Val) (j : Nat), (enumFrom j xs).length = xs.length
  | [], _ => rfl
  | _ :: xs, j => congrArg (· + 1) (enumFrom_len xs (j + 1))
theorem enumFrom0 (xs : List Val) (k : Nat) : (enumFrom 0 xs)[k]? = enumV xs k := by
  rw [enumFrom_at]
  unfold enumV
  congr 1
  funext y
  rw [Nat.zero_add]
def srcEnumF (xs : List Val) : Src := srcFix (enumFrom 0 xs)
def iEnumV (f : En → Hea → Res Val) : En → Hea → Res Src := fun e h => (f e h).bind fun d h1 => match d with
  | .ref i => if (lstAt h1 i).isSome = true then .ok (srcEnum i) h1 else .stuck
  | .lst xs => .ok (srcEnumF xs) h1
  | _ => .stuck
section
variable {S : Sy} {H : Hp} {ρ : Own}
theorem j_en1 {a : Addr} {xs : List Val} {vs : List V} {H' : Hp} {ρ' : Own} {h' : Hea} {k : Nat} (hk : k ≤ xs.length) (R : Rel S ρ' h' H') (sq : SqL S.K H' a vs) (r : Reps S ρ' H' xs vs) : match some (enumV xs k) with
    | some none => (ItE S.K .L a).stop k H'
    | some (some d) => (ItE S.K .L a).go k H' ∧ ∀ x H'', (ItE S.K .L a).yld k H' x H'' → Go S ρ' H' ρ' H'' ∧ Rel S ρ' h' H'' ∧ Rep S ρ' H'' d x
    | none => True := by
  unfold enumV
  cases e : xs[k]? with
  | none =>
    have hk2 : xs.length ≤ k := List.getElem?_eq_none_iff.mp e
    exact ⟨vs, sq, by rw [← r.length]; omega⟩
  | some d =>
    obtain ⟨v, ev, rv⟩ := r.get e
    refine ⟨⟨vs, v, sq, ev⟩, fun x H'' ⟨t, y, ob, ex, nt, od, eh, q⟩ => ?_⟩
    have z := q vs sq
    rw [ev] at z
    cases z
    subst ex eh
    exact ⟨.side nt, R.side nt, .tup (.inl ⟨ob, upd_same, od⟩) (.cons (.int _) (.cons (rv.mono (.side nt)) .nil))⟩
theorem j_enum {a : Addr} {i : Nat} (ea : ρ.nm[i]? = some a) : JOk S ρ H (ItE S.K .L a) (srcEnum i).item := fun ρ' H' h' g R k => by
  show match (lstAt h' i).bind fun xs => if k ≤ xs.length then some (enumV xs k) else none with | some none => _ | some (some d) => _ | none => _
  cases el : lstAt h' i with
  | none => exact True.intro
  | some xs =>
    obtain ⟨vs, sq', r'⟩ := R.lst el (g.sub _ _ ea)
    rw [Option.bind_some]
    by_cases hk : k ≤ xs.length
    · rw [if_pos hk]
      exact j_en1 hk R sq' r'
    · rw [if_neg hk]
      exact True.intro
theorem j_enumF {a : Addr} {xs : List Val} {vs : List V} (sq : H a = some (.lst vs)) (n : Fz ρ a) (r : Reps S ρ H xs vs) : JOk S ρ H (ItE S.K .L a) (srcEnumF xs).item := jfix fun ρ' H' h' g R k hk => by
  have e' := g.lst n sq
  rw [enumFrom_len] at hk
  rw [enumFrom0]
  exact j_en1 hk R (.inl (.inl e')) (r.mono g)
end
section
variable {T : Tb} {X : Cx} {W : WX} {tg a b c : Expr} {f : En → Hea → Res Val} {g : En → Hea → Res (List Val)} {pos p tpos : Pos} {elts : List Expr} {kk : Nat}
theorem si_enum (hg : Gl X "enumerate") (hm : X.mg "enumerate" = none) (ha : SE T X W a f) (hs : starEach [a] X.env = [(false, eval a X.env)] := by rfl) : SI T X W (.Tuple elts kk tpos) (.Call (.Name "enumerate" p) [a] [] pos) (iEnumV f) :=
  (pi_enZ .L hg hm (pa_cons ha pa_nil hs) hs).imp fun σ H Q q => by
    obtain ⟨ρ, e, h, R, E, a⟩ := q
    refine ⟨ρ, e, h, R, E, (AftI.bind a).mono fun v H1 ⟨ρ1, d, h1, s, R1, r, a1⟩ => ?_⟩
    split at a1
    · obtain ⟨p, rfl, ea⟩ := r.ref_
      split at a1
      · rename_i i hs
        obtain ⟨xs, hx⟩ := Option.isSome_iff_exists.mp hs
        obtain ⟨vs, sq, _⟩ := R1.lst hx ea
        exact ⟨p, vs, rfl, sq, a1 ρ1 H1 _ .rfl R1 (j_enum ea)⟩
      · exact a1.elim
    · cases r with
      | lst f h1 h2 => exact ⟨_, _, rfl, .inl (.inl h1), a1 ρ1 H1 _ .rfl R1 (j_enumF h1 f h2)⟩
    · exact a1.elim
end
theorem Reps.append {S : Sy} {ρ : Own} {H : Hp} : ∀ {ds es : List Val} {vs us : List V}, Reps S ρ H ds vs → Reps S ρ H es us → Reps S ρ H (ds ++ es) (vs ++ us)
  | _, _, _, _, .nil, q => q
  | _, _, _, _, .cons r t, q => .cons r (Reps.append t q)
def eApp (f g : En → Hea → Res Val) : En → Hea → Res Val := fun e h => (f e h).bind fun o h1 => match o with
  | .ref i => match h1[i]? with
    | some (.lst _) => (g e h1).bind fun y h2 => match h2[i]? with
      | some (.lst xs) => if xs.length < 16777216 then .ok .non (h2.set i (.lst (xs ++ [y]))) else .stuck
      | _ => .stuck
    | _ => .stuck
  | _ => .stuck
section
variable {T : Tb} {X : Cx} {W : WX} {o a : Expr} {f g : En → Hea → Res Val} {apos cpos : Pos}
theorem se_app (ho : SE T X W o f) (ha : SE T X W a g)
    (hbase : attributeBase o "append" X.env (eval o X.env) = eval o X.env := by rfl)
    (hfew : ((backTo cpos (starEach (a :: []) X.env)).all (fun x => !x.1) && (backToKw cpos (keywordEach [] X.env)).all (fun x => x.1.isSome)
      && decide ((a :: []).length + ([] : List Keyword).length + (if ([] : List Keyword).isEmpty then 0 else 1) < 30)) = true := by rfl)
    (hline : (apos.endLine == cpos.line) = true := by rfl) (hs : starEach (a :: []) X.env = (false, eval a X.env) :: starEach [] X.env := by rfl) (hplain : (backTo cpos (starEach [] X.env)).any (·.1) = false := by rfl) :
    SE T X W (.Call (.Attribute o "append" apos) [a] [] cpos) (eApp f g) :=
  (pe_bm PySem.F.plainAttrs_list PySem.F.slot_list_append PySem.F.type_list_append mt_append ho (pa_cons ha pa_nil hs) hbase hfew hline hs hplain).imp fun σ H Q q => by
    obtain ⟨ρ, e, h, R, E, a⟩ := q
    unfold eApp at a
    refine ⟨ρ, e, h, R, E, a.bind.mono fun ov H1 ⟨ρ1, od, h1, s, R1, r1, a1⟩ => ?_⟩
    split at a1
    · rename_i i
      split at a1
      · rename_i xs0 hx0
        obtain ⟨p, rfl, ep⟩ := r1.ref_
        have ob := R1.ob _ _ _ hx0 ep
        cases ob with
        | @lst _ vs0 _ hl0 hr0 =>
          refine ⟨.inl ⟨rfl, vs0, .inl (.inl hl0)⟩, ρ1, e, h1, R1, E.go s, a1.bind.mono fun yv H2 ⟨ρ2, yd, h2, s2, R2, r2, a2⟩ => ?_⟩
          split at a2
          · rename_i xs hx
            split at a2
            · rename_i hlen
              have ep2 := s2.sub _ _ ep
              have ob2 := R2.ob _ _ _ hx ep2
              cases ob2 with
              | @lst _ vs _ hl hr =>
                refine ⟨p, vs, yv, rfl, rfl, hl, by rw [sizeLine_eq, ← hr.length]; exact hlen, ?_⟩
                have kp : Mv (sy T X) ρ2 H2 ρ2 (upd H2 p (.lst (vs ++ [yv]))) := .put ep2 hl True.intro
                have R4 := R2.put (o := .lst (vs ++ [yv])) (ob := .lst (xs ++ [yd])) ep2 hl True.intro (.lst upd_same ((hr.append (.cons r2 .nil)).mono kp))
                exact a2 ρ2 .non _ (.put ep2 hl True.intro) R4 .non
            · exact a2.elim
          · exact a2.elim
      · exact a1.elim
    · exact a1.elim
end
end Lad
end
section
set_option maxRecDepth 100000
set_option maxHeartbeats 2000000
namespace Lad
open PySem L2
open PySem.W (Frag)
def NmOk (T : Tb) : Prop := ∀ m n : Nat, m < 100 → n < 100 → T.nm m = T.nm n → m = n
def lkF : List (Nat × Val) → Nat → Option Val
  | [], _ => none
  | (m, d) :: r, n => if m = n then some d else if m < 100 then lkF r n else none
def noF : List (Nat × Val) → Nat → Bool
  | [], _ => true
  | (m, _) :: r, n => if m = n then false else if m < 100 then noF r n else false
def putN (n : Nat) (d : Val) : List (Nat × Val) → Option (List (Nat × Val))
  | [] => some [(n, d)]
  | (m, x) :: r => if m = n then some ((m, d) :: r) else if m < 100 then (putN n d r).map ((m, x) :: ·) else none
section
variable {T : Tb} {K : Frag} {ex : Option (Addr × Nat × Addr)} {ρ : Own} {H : Hp}
theorem FsR.look {S : Sy} (nk : ∀ m n : Nat, m < 100 → n < 100 → S.nm m = S.nm n → m = n) {n : Nat} (hn : n < 100) : ∀ {fs : List (Nat × Val)} {vs : List (Str × V)} {d : Val}, FsR S ρ H fs vs → lkF fs n = some d → ∃ v, vs.lookup (S.nm n) = some v ∧ Rep S ρ H d v
  | _, _, d, .nil, e => by cases e
  | _, _, d, .cons (n := m) (d := d') (v := v) (ds := ds) (vs := vs) r t, e => by
    unfold lkF at e
    by_cases hm : m = n
    · subst hm
      rw [if_pos rfl] at e
      cases e
      exact ⟨v, by rw [List.lookup_cons]; simp, r⟩
    · rw [if_neg hm] at e
      by_cases hb : m < 100
      · rw [if_pos hb] at e
        obtain ⟨u, h1, h2⟩ := FsR.look nk hn t e
        refine ⟨u, ?_, h2⟩
        have hne : (S.nm n == S.nm m) = false := by
          cases q : S.nm n == S.nm m with
          | false => rfl
          | true => exact absurd (nk m n hb hn (eq_of_beq q).symm) hm
        rw [List.lookup_cons, hne]
        exact h1
      · rw [if_neg hb] at e
        cases e
theorem FsR.lookNo {S : Sy} (nk : ∀ m n : Nat, m < 100 → n < 100 → S.nm m = S.nm n → m = n) {n : Nat} (hn : n < 100) : ∀ {fs : List (Nat × Val)} {vs : List (Str × V)}, FsR S ρ H fs vs → noF fs n = true → vs.lookup (S.nm n) = none
  | _, _, .nil, e => rfl
  | _, _, .cons (n := m) (d := d') (v := v) (ds := ds) (vs := vs) r t, e => by
    unfold noF at e
    by_cases hm : m = n
    · rw [if_pos hm] at e
      cases e
    · rw [if_neg hm] at e
      by_cases hb : m < 100
      · rw [if_pos hb] at e
        have hne : (S.nm n == S.nm m) = false := by
          cases q : S.nm n == S.nm m with
          | false => rfl
          | true => exact absurd (nk m n hb hn (eq_of_beq q).symm) hm
        rw [List.lookup_cons, hne]
        exact FsR.lookNo nk hn t e
      · rw [if_neg hb] at e
        cases e
theorem FsR.put {S : Sy} (nk : ∀ m n : Nat, m < 100 → n < 100 → S.nm m = S.nm n → m = n) {n : Nat} (hn : n < 100) {d : Val} {v : V} (rv : Rep S ρ H d v) : ∀ {fs gs : List (Nat × Val)} {vs : List (Str × V)}, FsR S ρ H fs vs → putN n d fs = some gs → FsR S ρ H gs (putF (S.nm n) v vs)
  | _, _, _, .nil, e => by
    cases e
    exact .cons rv .nil
  | _, gs, _, .cons (n := m) (d := d') (v := v') (ds := ds) (vs := vs) r t, e => by
    unfold putN at e
    by_cases hm : m = n
    · subst hm
      rw [if_pos rfl] at e
      cases e
      unfold putF
      rw [if_pos rfl]
      exact .cons rv t
    · rw [if_neg hm] at e
      by_cases hb : m < 100
      · rw [if_pos hb] at e
        cases q : putN n d ds with
        | none => rw [q] at e; cases e
        | some g2 =>
          rw [q] at e
          cases e
          have hne : ¬ S.nm m = S.nm n := fun z => hm (nk m n hb hn z)
          unfold putF
          rw [if_neg hne]
          exact .cons r (FsR.put nk hn rv t q)
      · rw [if_neg hb] at e
        cases e
theorem FsR.length {S : Sy} : ∀ {fs : List (Nat × Val)} {vs : List (Str × V)}, FsR S ρ H fs vs → fs.length = vs.length
  | _, _, .nil => rfl
  | _, _, .cons _ t => by simp [FsR.length t]
end
/-- an instance, to be read -/
def insOf (h : Hea) : Val → Option (Nat × List (Nat × Val))
  | .obj c ns vs => some (c, ns.zip vs)
  | .ref i => match h[i]? with
    | some (.ins c fs) => some (c, fs)
    | _ => none
  | _ => none
theorem FsR.zip {S : Sy} {ρ : Own} {H : Hp} : ∀ {ns : List Nat} {ds : List Val} {ps : List (Str × V)}, ps.map (·.1) = ns.map S.nm → Reps S ρ H ds (ps.map (·.2)) → FsR S ρ H (ns.zip ds) ps
  | [], ds, [], _, r => by cases r; exact .nil
  | [], ds, p :: ps, e, _ => by cases e
  | n :: ns, ds, [], e, _ => by cases e
  | n :: ns, _, p :: ps, e, .cons r t => by
    obtain ⟨x, v⟩ := p
    simp only [List.map_cons, List.cons.injEq] at e
    obtain ⟨rfl, e⟩ := e
    exact .cons r (FsR.zip e t)
theorem ins_of {S : Sy} {ρ : Own} {H : Hp} {h : Hea} {d : Val} {v : V} {c : Nat} {fs : List (Nat × Val)} (R : Rel S ρ h H) (r : Rep S ρ H d v) (e : insOf h d = some (c, fs)) : ∃ a dx ps, v = .ref a ∧ H a = some (.ins (S.ca c) dx ps) ∧ FsR S ρ H fs ps := by
  unfold insOf at e
  split at e
  · cases e
    cases r with
    | obj f h1 e1 e2 r => subst e2; exact ⟨_, _, _, rfl, h1, FsR.zip e1 r⟩
  · obtain ⟨p, rfl, ep⟩ := r.ref_
    split at e
    · rename_i hx
      cases e
      have o := R.ob _ _ _ hx ep
      cases o with
      | ins h1 h2 => exact ⟨p, _, _, rfl, h1, h2⟩
    · cases e
  · cases e
/-- e.f -/
def eFld (ok : Nat → Bool) (n : Nat) (f : En → Hea → Res Val) : En → Hea → Res Val := fun e h => (f e h).bind fun o h1 => match insOf h1 o with
  | some (c, fs) => if ok c = true then (match lkF fs n with
    | some d => .ok d h1
    | none => .stuck) else .stuck
  | none => .stuck
/-- e.f = value -/
def sFldV (ok : Nat → Bool) (n : Nat) (fo fv : En → Hea → Res Val) : En → Hea → SRes := fun e h => ofR ((fv e h).bind fun v h1 => (fo e h1).bind fun o h2 => match o with
  | .ref i => match h2[i]? with
    | some (.ins c fs) => if ok c = true ∧ fs.length < 1000 then (match putN n v fs with
      | some gs => .ok Val.non (h2.set i (.ins c gs))
      | none => .stuck) else .stuck
    | _ => .stuck
  | _ => .stuck) e fun _ h3 => .nx e h3
section
variable {T : Tb} {X : Cx} {W : WX} {a o : Expr} {f g : En → Hea → Res Val} {pos pos' : Pos} {ok : Nat → Bool} {n : Nat} {fn : Str}
theorem se_fld (nk : NmOk T) (hn : n < 100) (hf : T.nm n = fn) (hok : ∀ c, ok c = true → Cls X.K (T.ca c) ∧ NoAttr X.K (T.ca c) fn) (ha : SE T X W a f) (hb : attributeBase a fn X.env (eval a X.env) = eval a X.env := by rfl) : SE T X W (.Attribute a fn pos) (eFld ok n f) :=
  (pe_fld ha hb).imp fun σ H Q q => by
    obtain ⟨ρ, e, h, R, E, a⟩ := q
    unfold eFld at a
    refine ⟨ρ, e, h, R, E, a.bind.mono fun ov H1 ⟨ρ1, od, h1, s, R1, r1, a1⟩ => ?_⟩
    split at a1
    · rename_i c fs hx
      obtain ⟨p, dx, vs, rfl, hi, hfs⟩ := ins_of R1 r1 hx
      split at a1
      · rename_i hc
        split at a1
        · rename_i d hd
          obtain ⟨v, e1, e2⟩ := FsR.look (S := sy T X) nk hn hfs hd
          exact ⟨p, _, dx, vs, v, rfl, hi, (hok c hc).1, (hok c hc).2, by rw [← hf]; exact e1, a1.same R1 e2⟩
        · exact a1.elim
      · exact a1.elim
    · exact a1.elim
theorem st_fld (nk : NmOk T) (hn : n < 100) (hf : T.nm n = fn) (hok : ∀ c, ok c = true → Cls X.K (T.ca c) ∧ NoAttr X.K (T.ca c) fn) (ho : SE T X W o f) (hv : SE T X W a g) (hs : swapsWith a (some (.Attribute o fn pos')) pos.line X.env = pure false := by rfl) : SSt T X W (.Assign [.Attribute o fn pos'] a pos) (sFldV ok n f g) :=
  (ps_fld ho hv hs).imp fun D σ H q => by
    obtain ⟨ρ, e, h, R, E, a⟩ := q
    unfold sFldV at a
    have a := (AftS.ofR a E).bind
    refine ⟨ρ, e, h, R, E, a.mono fun yv H1 ⟨ρ1, yd, h1, s1, R1, r1, a1⟩ => ⟨ρ1, e, h1, R1, E.go s1, a1.bind.mono fun ov H2 ⟨ρ2, od, h2, s2, R2, r2, a2⟩ => ?_⟩⟩
    split at a2
    · split at a2
      · rename_i i c fs hx
        obtain ⟨p, rfl, ep⟩ := r2.ref_
        split at a2
        · rename_i hc
          split at a2
          · rename_i gs hg
            have ob := R2.ob _ _ _ hx ep
            cases ob with
            | @ins _ _ vs _ dx hi hfs =>
              have hl := hfs.length
              refine ⟨p, _, dx, vs, rfl, hi, (hok c hc.1).1, (hok c hc.1).2, by omega, ?_⟩
              have kp : Mv (sy T X) ρ2 H2 ρ2 (upd H2 p (.ins (T.ca c) dx (putF (T.nm n) yv vs))) := .put ep hi True.intro
              have R4 := R2.put (o := .ins (T.ca c) dx (putF (T.nm n) yv vs)) (ob := .ins c gs) ep hi True.intro (.ins upd_same ((FsR.put (S := sy T X) nk hn (r1.go s2) hfs hg).mono kp))
              have g4 : Go (sy T X) ρ2 H2 ρ2 (upd H2 p (.ins (T.ca c) dx (putF (T.nm n) yv vs))) := .put ep hi True.intro
              obtain ⟨ρ5, d5, h5, s5, R5, r5, E5, a5⟩ := a2 ρ2 .non _ g4 R4 .non
              rw [← hf]
              exact a5 ρ5 σ _ .rfl R5 E5
          · exact a2.elim
        · exact a2.elim
      · exact a2.elim
    · exact a2.elim
end
end Lad
end
section
set_option maxRecDepth 100000
set_option maxHeartbeats 2000000
namespace Lad
open PySem L2
open PySem.W (Frag)
section
variable {X : Cx} {CX : CXT} {k : Nat} {f C : Addr} {fd : FuncData} {ps : List Str} {sp : Sp} {E : St → XK} {x m : Str} {p pos apos : Pos} {e o : Expr} {es : List Expr} {ta : TE} {t : TA}
def tMtS (C : Addr) (m : Str) (sp : Sp) (E : St → XK) (ta : TE) (t : TA) : TE := fun σ H Q => ta σ H fun x H1 => ∃ a dx fs, x = .ref a ∧ H1 a = some (.ins C dx fs) ∧ fs.lookup m = none ∧ t σ H1 fun vs H2 => sp (x :: vs) H2 Q (E σ)
theorem pe_mtS {pl : Sem Bool} (he : PE X o ta) (c : Cls X.K C) (hm : Meth X.K C m f) (F : FnOk X.prog X.w X.K X.mg X.base CX k f fd ps sp) (hr : Room k X.A) (hb : Binds X.K fd ps []) (hx : ∀ σ, PassesAt CX X σ (E σ)) (ha : PA X (e :: es) t)
    (hst : starEach (e :: es) X.env = (false, eval e X.env) :: starEach es X.env := by rfl) (hpl : (backTo pos (starEach es X.env)).any (·.1) = false := by rfl)
    (ht : eval (.Call (.Attribute o m apos) (e :: es) [] pos) X.env = (do
      let ov ← eval o X.env
      standAt apos.atName
      let (f, first) ← holding [ov] (getMethod ov m pl)
      callWith pos f first (backTo pos (starEach (e :: es) X.env)) (backToKw pos (keywordEach [] X.env))) := by rfl) : PE X (.Call (.Attribute o m apos) (e :: es) [] pos) (tMtS C m sp E ta t) := by
  refine ⟨?_⟩
  intro pins s σ H Q I hw
  have recv := he.run pins s σ H _ I hw
  refine PySem.W.methodCall_KW (pl := pl) (thn recv ?_) ht
  rintro u s1 ⟨x, H1, I1, rx, a, dx, fs, rfl, ea, nof, w1⟩
  have eu : u = Value.ref a := rx
  subst eu
  apply getmeth_ok I1 ea c hm nof
  have given := ha.run pos pins s1 σ H1 _ I1 w1
  refine PySem.W.callWith_K (first := [.ref a]) (h₀ := X.base) I.ok.mod.kin hm.kp (thn given ?_) hst hpl
  rintro us s2 ⟨vs, H2, I2, rs, w2⟩
  exact ⟨I2.kIn, run_fnS (us := .ref a :: us) (vs := .ref a :: vs) F hr hb (hx σ) I2 (.cons rfl rs) w2⟩
/-- a new instance, its __init__ run -/
theorem run_mkS {pins : List (Addr × Obj)} {σ : St} {H : Hp} {s : Shared} {Q : VK} {us : List Value} {vs : List V} (M : Mk X.K C f) (F : FnOk X.prog X.w X.K X.mg X.base CX k f fd ps sp) (hr : Room (k + 1) X.A) (hb : Binds X.K fd ps []) (hx : PassesAt CX X σ (E σ)) (I : Inv X pins σ H s) (r : Vals vs us)
    (w : ∀ x dx, H x = none → H dx = none → dx ≠ x → sp (.ref x :: vs) (upd (upd H dx (.own x)) x (.ins C dx [])) (fun v H2 => v = .non ∧ Q (.ref x) H2) (E σ)) :
    wpAny (model X.prog X.w) X.A (call (.ref C) us) (EP X pins σ Q) X.xe s := by
  have at0 := I.hok.fresh (Nat.le_refl s.heap.objs.size)
  have at1 := I.hok.fresh (Nat.le_succ s.heap.objs.size)
  have w1 := w (s.heap.objs.size + 1) s.heap.objs.size at1 at0 (Nat.ne_of_lt (Nat.lt_succ_self _))
  have J := Inv.made (C := C) I
  have rs : Vals (V.ref (s.heap.objs.size + 1) :: vs) (Value.ref (s.heap.objs.size + 1) :: us) := .cons rfl r
  have len : (Value.ref (s.heap.objs.size + 1) :: us).length = ps.length := by
    rw [← rs.length]
    exact F.len _ _ _ _ w1
  have bind := hb _ (Value.ref (s.heap.objs.size + 1) :: us) J.kIn (by rw [List.append_nil]; exact len)
  rw [List.append_nil] at bind
  have body := F.run _ X.stack _ _ ⟨Value.ref (s.heap.objs.size + 1) :: us, []⟩ (Value.ref (s.heap.objs.size + 1) :: us) _ _ (E σ) (hr.make C us []) (J.env0.make C us []) bind rs w1
  apply wpAny_call
  refine make_map (f := f) I.kIn M.makes M.init (beq_iff_eq.mp M.fn) (codeAny_mono body ?_)
  intro res s' back
  match res, back with
  | .error er, back => exact hx pins _ _ er s' J back
  | .ok (.ret u), back =>
    obtain ⟨v, H', I3, rv, ev, w3⟩ := J.after back
    subst ev
    exact ⟨rv, V.ref (s.heap.objs.size + 1), H', I3, rfl, w3⟩
  | .ok .next, back => exact False.elim back
  | .ok .brk, back => exact False.elim back
  | .ok .cont, back => exact False.elim back
def tMkS (C : Addr) (sp : Sp) (E : St → XK) (t : TA) : TE := fun σ H Q => t σ H fun vs H1 => ∀ x dx, H1 x = none → H1 dx = none → dx ≠ x → sp (.ref x :: vs) (upd (upd H1 dx (.own x)) x (.ins C dx [])) (fun v H2 => v = .non ∧ Q (.ref x) H2) (E σ)
theorem pe_mkS (M : Mk X.K C f) (F : FnOk X.prog X.w X.K X.mg X.base CX k f fd ps sp) (hr : Room (k + 1) X.A) (hg : Gl X x) (hm : X.mg x = some (.ref C)) (hb : Binds X.K fd ps []) (hx : ∀ σ, PassesAt CX X σ (E σ)) (ha : PA X (e :: es) t)
    (hdb : (x == ("__debug__" : Str)) = false := by decide) (he : starEach (e :: es) X.env = (false, eval e X.env) :: starEach es X.env := by rfl) (hpl : (backTo pos (starEach es X.env)).any (·.1) = false := by rfl) :
    PE X (.Call (.Name x p) (e :: es) [] pos) (tMkS C sp E t) := by
  refine ⟨?_⟩
  intro pins s σ H Q I hw
  apply wpAny_Call_Name_kw
  refine ld_glob I hg hm ?_ hdb
  have given := ha.run pos pins s σ H _ I hw
  refine PySem.W.callWith_K (h₀ := X.base) I.ok.mod.kin M.kp (thn given ?_) he hpl
  rintro us s1 ⟨vs, H1, I1, rs, w1⟩
  exact ⟨I1.kIn, run_mkS M F hr hb (hx σ) I1 rs w1⟩
end
def eMeth (c n : Nat) (cf : List Val → Hea → Res Val) (f : En → Hea → Res Val) (g : En → Hea → Res (List Val)) : En → Hea → Res Val := fun e h => (f e h).bind fun o h1 => match insOf h1 o with
  | some (c', fs) => if c' = c ∧ noF fs n = true then (g e h1).bind fun ds h2 => cf (o :: ds) h2 else .stuck
  | none => .stuck
/-- __init__'s end: None; fn: what becomes of the new thing -/
def mkEnd (fn : Hea → Val → Hea → Res Val) (h0 : Hea) (r : Res Val) : Res Val := match r with
  | .ok .non h => fn h0 (.ref h0.length) h
  | .ok _ _ => .stuck
  | .exc c d h => .exc c d h
  | .stuck => .stuck
def eMakeG (fn : Hea → Val → Hea → Res Val) (c : Nat) (cf : List Val → Hea → Res Val) (g : En → Hea → Res (List Val)) : En → Hea → Res Val := fun e h => (g e h).bind fun ds h1 => mkEnd fn h1 (cf (.ref h1.length :: ds) (h1 ++ [.ins c []]))
abbrev eMake := eMakeG fin
section
variable {T : Tb} {X : Cx} {W : WX} {x m : Str} {f : Addr} {fd : FuncData} {ps : List Str} {k c n : Nat} {cf : List Val → Hea → Res Val} {e o : Expr} {es : List Expr} {fo : En → Hea → Res Val} {g : En → Hea → Res (List Val)} {p apos pos : Pos}
theorem meth_imp (nk : NmOk T) (hn : n < 100) (hm : T.nm n = m) {σ : St} {H : Hp} {Q : VK} (q : tE (sy T X) W (eMeth c n cf fo g) σ H Q) : tMtS (T.ca c) m (spEv (sy T X) cf) (WE W) (tE (sy T X) W fo) (tA (sy T X) W g) σ H Q := by
  obtain ⟨ρ, e, h, R, E, a⟩ := q
  unfold eMeth at a
  refine ⟨ρ, e, h, R, E, a.bind.mono fun ov H1 ⟨ρ1, od, h1, s, R1, r1, a1⟩ => ?_⟩
  split at a1
  · rename_i c' fs hx
    obtain ⟨p, dx, vs, rfl, hi, hfs⟩ := ins_of R1 r1 hx
    split at a1
    · rename_i hc
      obtain ⟨rfl, hno⟩ := hc
      refine ⟨p, dx, vs, rfl, hi, by rw [← hm]; exact FsR.lookNo (S := sy T X) nk hn hfs hno, ρ1, e, h1, R1, E.go s, (AftA.bind a1).mono fun us H2 ⟨ρ2, ds, h2, s2, R2, r2, a2⟩ => ?_⟩
      exact ⟨ρ2, h2, _, R2, .cons (r1.go s2) r2, a2⟩
    · exact a1.elim
  · exact a1.elim
theorem se_meth (nk : NmOk T) (hn : n < 100) (hnm : T.nm n = m) (C : Cls X.K (T.ca c)) (hm : Meth X.K (T.ca c) m f) (F : FnOk X.prog X.w X.K X.mg X.base (L2.CX X.prog X.w) k f fd ps (spEv (sy T X) cf)) (hr : Room k X.A) (hb : Binds X.K fd ps []) (tk : Takes X W)
    (ho : SE T X W o fo) (ha : SA T X W (e :: es) g) {pl : Sem Bool} (hst : starEach (e :: es) X.env = (false, eval e X.env) :: starEach es X.env := by rfl) (hpl : (backTo pos (starEach es X.env)).any (·.1) = false := by rfl)
    (ht : eval (.Call (.Attribute o m apos) (e :: es) [] pos) X.env = (do
      let ov ← eval o X.env
      standAt apos.atName
      let (f, first) ← holding [ov] (getMethod ov m pl)
      callWith pos f first (backTo pos (starEach (e :: es) X.env)) (backToKw pos (keywordEach [] X.env))) := by rfl) : SE T X W (.Call (.Attribute o m apos) (e :: es) [] pos) (eMeth c n cf fo g) :=
  (pe_mtS (E := WE W) ho C hm F hr hb (fun σ => passAt tk σ) ha hst hpl ht).imp fun σ H Q q => meth_imp nk hn hnm q
theorem mkEnd_aft {S : Sy} {fn : Hea → Val → Hea → Res Val} (fo : FinOk fn) {ρ0 ρ : Own} {H0 H : Hp} {h0 : Hea} {r : Res Val} {Q : VK} {W : XK} {x : Addr} (R0 : Rel S ρ0 h0 H0) (g : Go S ρ0 H0 ρ H) (ex : ρ.nm[h0.length]? = some x) (a : Aft S ρ0 H0 (mkEnd fn h0 r) Q W) : Aft S ρ H r (fun v H2 => v = .non ∧ Q (.ref x) H2) W := by
  unfold mkEnd at a
  split at a
  · intro ρ1 v H1 s R1 r1
    cases r1
    exact ⟨rfl, fo _ _ _ _ _ _ _ _ R0 a ρ1 (.ref x) H1 (g.trans s) R1 (.ref (s.sub _ _ ex))⟩
  · exact a.elim
  · exact fun ρ1 v H1 dx s => a ρ1 v H1 dx (g.trans s)
  · exact a
theorem se_make {fn : Hea → Val → Hea → Res Val} (fo : FinOk fn) (hm : X.mg x = some (.ref (T.ca c))) (M : Mk X.K (T.ca c) f) (F : FnOk X.prog X.w X.K X.mg X.base (L2.CX X.prog X.w) k f fd ps (spEv (sy T X) cf)) (hr : Room (k + 1) X.A) (hb : Binds X.K fd ps []) (tk : Takes X W) (ha : SA T X W (e :: es) g) (hg : Gl X x := by rfl)
    (hdb : (x == ("__debug__" : Str)) = false := by decide) (he : starEach (e :: es) X.env = (false, eval e X.env) :: starEach es X.env := by rfl) (hpl : (backTo pos (starEach es X.env)).any (·.1) = false := by rfl) : SE T X W (.Call (.Name x p) (e :: es) [] pos) (eMakeG fn c cf g) :=
  (pe_mkS (E := WE W) M F hr hg hm hb (fun σ => passAt tk σ) ha hdb he hpl).imp fun σ H Q q => by
    obtain ⟨ρ, e, h, R, E, a⟩ := q
    unfold eMakeG at a
    refine ⟨ρ, e, h, R, E, (AftA.bind a).mono fun us H1 ⟨ρ1, ds, h1, s, R1, r1, a1⟩ => ?_⟩
    intro y dx ny ndx hne
    have g1 : Go (sy T X) ρ1 H1 ρ1 (upd H1 dx (.own y)) := .side ndx
    have R2 : Rel (sy T X) ρ1 h1 (upd H1 dx (.own y)) := R1.side ndx
    have ny2 : upd H1 dx (.own y) y = none := by rw [upd_ne (Ne.symm hne)]; exact ny
    have g2 : Go (sy T X) ρ1 (upd H1 dx (.own y)) (ρ1.add y) (upd (upd H1 dx (.own y)) y (.ins (T.ca c) dx [])) := .new ny2
    have R3 : Rel (sy T X) (ρ1.add y) (h1 ++ [.ins c []]) (upd (upd H1 dx (.own y)) y (.ins (T.ca c) dx [])) := R2.new ny2 (.ins upd_same .nil)
    have ey : (ρ1.add y).nm[h1.length]? = some y := by rw [R1.len]; exact add_at
    exact ⟨ρ1.add y, h1 ++ [.ins c []], .ref h1.length :: ds, R3, .cons (.ref ey) (r1.go (g1.trans g2)), mkEnd_aft fo R1 (g1.trans g2) ey a1⟩
end
end Lad
end
section
set_option maxRecDepth 100000
set_option maxHeartbeats 2000000
namespace Lad
open PySem
open L2 PySem.Spec PyProof.Rows
def iEnumS (f : En → Hea → Res Val) : En → Hea → Res Src := fun e h => (f e h).bind fun d h1 => match d with
  | .ref i => if (lstAt h1 i).isSome = true then .ok (srcEnum i) h1 else .stuck
  | .tup xs => .ok (srcEnumF xs) h1
  | .lst xs => .ok (srcEnumF xs) h1
  | _ => .stuck
theorem j_enT {S : Sy} {H : Hp} {ρ : Own} {a : Addr} {xs : List Val} {vs : List V} (sq : SqT S.K H a vs) (r : Reps S ρ H xs vs) : JOk S ρ H (ItE S.K .T a) (srcEnumF xs).item := jfix fun ρ' H' h' g R k hk => by
  have sq' := g.kp.1 _ _ sq
  have r' := r.mono g
  rw [enumFrom_len] at hk
  rw [enumFrom0]
  · unfold enumV
    cases e : xs[k]? with
    | none =>
      have hk2 : xs.length ≤ k := List.getElem?_eq_none_iff.mp e
      exact ⟨vs, sq', by rw [← r.length]; omega⟩
    | some d =>
      obtain ⟨v, ev, rv⟩ := r'.get e
      refine ⟨⟨vs, v, sq', ev⟩, fun x H'' ⟨t, y, ob, ex, nt, od, eh, q⟩ => ?_⟩
      have z := q vs sq'
      rw [ev] at z
      cases z
      subst ex eh
      exact ⟨.side nt, R.side nt, .tup (.inl ⟨ob, upd_same, od⟩) (.cons (.int _) (.cons (rv.mono (.side nt)) .nil))⟩
section
variable {T : Tb} {X : Cx} {W : WX} {a : Expr} {f : En → Hea → Res Val} {pos p tpos : Pos} {elts : List Expr} {kk : Nat}
def iEnumTup (f : En → Hea → Res Val) : En → Hea → Res Src := fun e h => (f e h).bind fun d h1 => match d with
  | .tup xs => .ok (srcEnumF xs) h1
  | _ => .stuck
theorem si_enumT (hg : Gl X "enumerate") (hm : X.mg "enumerate" = none) (ha : SE T X W a f) (hs : starEach [a] X.env = [(false, eval a X.env)] := by rfl) : SI T X W (.Tuple elts kk tpos) (.Call (.Name "enumerate" p) [a] [] pos) (iEnumTup f) :=
  (pi_enZ .T hg hm (pa_cons ha pa_nil hs) hs).imp fun σ H Q q => by
    obtain ⟨ρ, e, h, R, E, a⟩ := q
    refine ⟨ρ, e, h, R, E, (AftI.bind a).mono fun v H1 ⟨ρ1, d, h1, s, R1, r, a1⟩ => ?_⟩
    split at a1
    · obtain ⟨p, vs, rfl, sq, rr⟩ := r.tup_
      exact ⟨p, vs, rfl, sq.sq, a1 ρ1 H1 _ .rfl R1 (j_enT sq.sq rr)⟩
    · exact a1.elim
/-- enumerate of a list or a tuple -/
theorem si_enumS (hg : Gl X "enumerate") (hm : X.mg "enumerate" = none) (ha : SE T X W a f) (hs : starEach [a] X.env = [(false, eval a X.env)] := by rfl) : SI T X W (.Tuple elts kk tpos) (.Call (.Name "enumerate" p) [a] [] pos) (iEnumS f) :=
  (pi_or (si_enum hg hm ha hs) (si_enumT hg hm ha hs)).imp fun σ H Q q => by
    obtain ⟨ρ, e, h, R, E, a⟩ := q
    by_cases hc : ∃ xs h1, f e h = .ok (.tup xs) h1
    · obtain ⟨xs, h1, hf⟩ := hc
      refine .inr ⟨ρ, e, h, R, E, ?_⟩
      unfold iEnumS at a
      unfold iEnumTup
      rw [hf] at a ⊢
      exact a
    · refine .inl ⟨ρ, e, h, R, E, ?_⟩
      unfold iEnumS at a
      unfold iEnumV
      cases hf : f e h with
      | ok d h1 =>
        rw [hf] at a
        cases d with
        | tup xs => exact absurd ⟨xs, h1, hf⟩ hc
        | _ => exact a
      | exc c d h1 => rw [hf] at a; exact a
      | stuck => rw [hf] at a; exact a
end
end Lad
end
section
set_option maxRecDepth 100000
set_option maxHeartbeats 2000000
namespace Lad
open PySem L2
def undE (n : Nat) : En → Bool
  | [] => true
  | none :: e => undE n e
  | some d :: e => d.und n && undE n e
def wipeAll (e : En) : List Nat → En
  | [] => e
  | i :: is => wipeAll (e.set i none) is
/-- the names of dead are forgotten; where nothing held is younger than n, the heap is cut at n -/
def gcN (dead : List Nat) (n : Nat) (e : En) (h : Hea) : En × Hea := match wipeAll e dead with
  | e1 => match (if undE n e1 = true then shut n n h else none) with
    | some g => (e1, g)
    | none => (e1, h)
def forK (gc : En → Hea → En × Hea) (it : Nat → Hea → Option (Option Val)) (b : Val → En → Option En) (body : En → Hea → SRes) : Nat → Nat → En → Hea → SRes
  | 0, _, _, _ => .stuck
  | n + 1, k, e, h => match it k h with
    | some none => .nx e h
    | some (some v) => match b v e with
      | some e1 => match body e1 h with
        | .nx e2 h2 => match gc e2 h2 with | (e3, h3) => forK gc it b body n (k + 1) e3 h3
        | .ct e2 h2 => match gc e2 h2 with | (e3, h3) => forK gc it b body n (k + 1) e3 h3
        | .bk e2 h2 => .nx e2 h2
        | r => r
      | none => .stuck
    | none => .stuck
def forKL (gc : En → Hea → En × Hea) (b : Val → En → Option En) (body : En → Hea → SRes) : List Val → En → Hea → SRes
  | [], e, h => .nx e h
  | v :: vs, e, h => match b v e with
    | some e1 => match body e1 h with
      | .nx e2 h2 => match gc e2 h2 with | (e3, h3) => forKL gc b body vs e3 h3
      | .ct e2 h2 => match gc e2 h2 with | (e3, h3) => forKL gc b body vs e3 h3
      | .bk e2 h2 => .nx e2 h2
      | r => r
    | none => .stuck
theorem forK_fix (gc : En → Hea → En × Hea) (b : Val → En → Option En) (body : En → Hea → SRes) (xs : List Val) : ∀ (m k : Nat) (e : En) (h : Hea), k + m = xs.length + 1 → 0 < m → forK gc (srcFix xs).item b body m k e h = forKL gc b body (xs.drop k) e h := by
  intro m
  induction m with
  | zero => intro k e h hm h0; omega
  | succ m ih =>
    intro k e h hm _
    unfold forK
    rw [fix_item xs (by omega)]
    by_cases hk : k < xs.length
    · rw [List.getElem?_eq_getElem hk, List.drop_eq_getElem_cons hk]
      unfold forKL
      dsimp only
      cases b xs[k] e with
      | none => rfl
      | some e1 =>
        dsimp only
        cases body e1 h with
        | nx e2 h2 => cases gc e2 h2; exact ih (k + 1) _ _ (by omega) (by omega)
        | ct e2 h2 => cases gc e2 h2; exact ih (k + 1) _ _ (by omega) (by omega)
        | _ => rfl
    · rw [List.getElem?_eq_none_iff.mpr (by omega), List.drop_eq_nil_of_le (by omega)]
      rfl
def runForK (gc : En → Hea → En × Hea) (s : Src) (b : Val → En → Option En) (body : En → Hea → SRes) (e : En) (h : Hea) : SRes := match s.fix with
  | some xs => forKL gc b body xs e h
  | none => forK gc s.item b body s.fuel 0 e h
theorem runForK_eq {gc : En → Hea → En × Hea} {s : Src} {b : Val → En → Option En} {body : En → Hea → SRes} {e : En} {h : Hea} : runForK gc s b body e h = forK gc s.item b body s.fuel 0 e h := by
  unfold runForK
  cases hf : s.fix with
  | none => rfl
  | some xs =>
    obtain ⟨e1, e2⟩ := s.ok xs hf
    rw [e1, e2]
    exact (forK_fix gc b body xs (xs.length + 1) 0 e h (by omega) (by omega)).symm
def sForK (dead : List Nat) (src : En → Hea → Res Src) (b : Val → En → Option En) (body : En → Hea → SRes) : En → Hea → SRes := fun e h => ofR (src e h) e fun s h1 => runForK (gcN dead h1.length) s b body e h1
section
variable {S : Sy} {H : Hp} {ρ : Own}
theorem ER.wipeAll : ∀ (is : List Nat) {e : En} {σ : St}, ER S ρ H e σ → ER S ρ H (Lad.wipeAll e is) σ
  | [], _, _, r => r
  | i :: is, _, _, r => ER.wipeAll is (r.weak i)
theorem ER.cut {ρ' : Own} (s : Less ρ ρ') : ∀ {e : En} {σ : St}, undE ρ.nm.length e = true → ER S ρ' H e σ → ER S ρ H e σ
  | _, _, _, .nil => .nil
  | none :: _, _, h, .cons r t => .cons (fun x e => nomatch e) (ER.cut s h t)
  | some d :: _, _, h, .cons r t => by
    simp only [undE, Bool.and_eq_true] at h
    refine .cons (fun x e => ?_) (ER.cut s h.2 t)
    obtain ⟨v, e1, e2⟩ := r x e
    cases e
    exact ⟨v, e1, e2.cut s h.1⟩
theorem gc_ok {ρ1 ρ4 : Own} {H1 H4 : Hp} {h1 h4 : Hea} {e4 : En} {σ4 : St} {dead : List Nat} (R1 : Rel S ρ1 h1 H1) (g : Go S ρ1 H1 ρ4 H4) (R4 : Rel S ρ4 h4 H4) (E4 : ER S ρ4 H4 e4 σ4) :
    ∃ ρ5, Go S ρ1 H1 ρ5 H4 ∧ Rel S ρ5 (gcN dead h1.length e4 h4).2 H4 ∧ ER S ρ5 H4 (gcN dead h1.length e4 h4).1 σ4 := by
  have E5 := ER.wipeAll dead E4
  have hl := R1.len
  unfold gcN
  dsimp only
  split
  · rename_i gg hg
    split at hg
    · rename_i hu
      exact ⟨ρ1, g.drop, R1.cut g.less R4 hg, E5.cut g.less (by rw [← hl]; exact hu)⟩
    · cases hg
  · exact ⟨ρ4, g, R4, E5⟩
end
section
variable {T : Tb} {X : Cx} {W : WX} {tg a : Expr} {src : En → Hea → Res Src} {body : List Stmt} {fb : En → Hea → SRes} {g : TG} {b : Val → En → Option En} {vs : List Nat} {pos : Pos}
theorem st_forK (dead : List Nat) (hp : PassesOwn (model X.prog X.w) X.A X.env X.xe) (hc : X.calm = true) (hi : SI T X W tg a src) (hg : PG X tg g) (ok : GOk (sy T X) vs g b) (hb : SSs T X W body fb) (hs : ∀ x, foldedSetIterable a X.env x = pure x := by intro _; rfl) :
    SSt T X W (.For tg a body [] pos) (sForK dead src b fb) := by
  refine PS.imp (ps_for hp hc hi hg hb hs) fun D σ H q => ?_
  obtain ⟨ρ, e, h, R, E, a⟩ := q
  refine ⟨ρ, e, h, R, E, (a.ofI E).mono fun J H1 ⟨ρ1, d, h1, s, R1, j, E1, a1⟩ => ?_⟩
  have a1 : AftS (sy T X) ρ1 H1 (forK (gcN dead h1.length) d.item b fb d.fuel 0 e h1) D W := by rw [← runForK_eq]; exact a1
  refine ⟨fun k m σ H2 => ∃ ρ2 e2 h2, Go (sy T X) ρ1 H1 ρ2 H2 ∧ Rel (sy T X) ρ2 h2 H2 ∧ ER (sy T X) ρ2 H2 e2 σ ∧ AftS (sy T X) ρ1 H1 (forK (gcN dead h1.length) d.item b fb m k e2 h2) D W, ⟨d.fuel, ρ1, e, h1, .rfl, R1, E1, a1⟩, fun k m σ H2 w => ?_⟩
  obtain ⟨ρ2, e2, h2, g2, R2, E2, a2⟩ := w
  cases m with
  | zero => exact a2.elim
  | succ m =>
    have jk := j ρ2 H2 h2 g2.mv R2 k
    unfold forK at a2
    cases hit : d.item k h2 with
    | none => rw [hit] at a2; exact a2.elim
    | some o =>
      rw [hit] at a2 jk
      cases o with
      | none => exact .inl ⟨jk, a2 ρ2 σ H2 g2 R2 E2⟩
      | some v =>
        refine .inr ⟨jk.1, fun σ' H' => ∃ ρ2 e2 h2, Go (sy T X) ρ1 H1 ρ2 H' ∧ Rel (sy T X) ρ2 h2 H' ∧ ER (sy T X) ρ2 H' e2 σ' ∧ AftS (sy T X) ρ1 H1 (forK (gcN dead h1.length) d.item b fb m (k + 1) e2 h2) D W, fun σ' H' z => ⟨m, Nat.lt_succ_self m, z⟩, fun x H' y => ?_⟩
        obtain ⟨g3, R3, r3⟩ := jk.2 x H' y
        dsimp only at a2
        cases hbv : b v e2 with
        | none => rw [hbv] at a2; exact a2.elim
        | some e3 =>
          rw [hbv] at a2
          refine ok ρ2 H' h2 e2 σ v x e3 _ R3 (E2.go g3) r3 hbv fun σ3 E3 _ => ⟨ρ2, e3, h2, R3, E3, ?_⟩
          have g4 := g2.trans g3
          dsimp only at a2
          revert a2
          cases fb e3 h2 with
          | nx e4 h4 =>
            intro a2 ρ4 σ4 H4 s4 R4 E4
            obtain ⟨ρ5, g5, R5, E5⟩ := gc_ok (dead := dead) R1 (g4.trans s4) R4 E4
            exact ⟨ρ5, _, _, g5, R5, E5, a2⟩
          | ct e4 h4 =>
            intro a2 ρ4 σ4 H4 s4 R4 E4
            obtain ⟨ρ5, g5, R5, E5⟩ := gc_ok (dead := dead) R1 (g4.trans s4) R4 E4
            exact ⟨ρ5, _, _, g5, R5, E5, a2⟩
          | bk e4 h4 => exact fun a2 ρ4 σ4 H4 s4 R4 E4 => a2 ρ4 σ4 H4 (g4.trans s4) R4 E4
          | rt v4 h4 => exact fun a2 => AftS.later (r := .rt v4 h4) a2 g4
          | exc c4 d4 e4 h4 => exact fun a2 => AftS.later (r := .exc c4 d4 e4 h4) a2 g4
          | stuck => exact fun a2 => a2
end
end Lad
end
section
set_option maxRecDepth 100000
set_option maxHeartbeats 2000000
namespace Lad
open PySem L2
def sAug (i : Nat) (o : Int → Int → Int) (f : En → Hea → Res Val) : En → Hea → SRes := fun e h => match e[i]? with
  | some (some (.int x)) => ofR (f e h) e fun d h1 => match d with
    | .int y => .nx (e.set i (some (.int (o x y)))) h1
    | _ => .stuck
  | _ => .stuck
end Lad
end
section
set_option maxRecDepth 100000
set_option maxHeartbeats 2000000
namespace Lad
open PySem PySem.Spec PySem.Calls PyProof.Rows L2
open PySem.W (Frag)
theorem inst_of {X : Cx} {pins : List (Addr × Obj)} {σ : L2.St} {H : Hp} {s : Shared} {a C dx : Addr} {fs : List (Str × V)} (I : Inv X pins σ H s) (e : H a = some (.ins C dx fs)) : ∃ od, PySem.W.InstAt s.heap a (PySem.W.instObj C dx) C (some od) := by
  obtain ⟨mA, O, _, _, _, _⟩ := ins_get I.hok e
  obtain ⟨od, h, _⟩ := O.look
  exact ⟨od, h⟩
def eCallO (c : Nat) (cf : List Val → Hea → Res Val) (f : En → Hea → Res Val) (g : En → Hea → Res (List Val)) : En → Hea → Res Val := fun e h => (f e h).bind fun o h1 => match insOf h1 o with
  | some _ => (g e h1).bind fun ds h2 => match insOf h2 o with
    | some (c', _) => if c' = c then cf (o :: ds) h2 else .stuck
    | none => .stuck
  | none => .stuck
end Lad
end
section
set_option maxRecDepth 100000
set_option maxHeartbeats 2000000
namespace Lad
open PySem PySem.Spec PySem.Calls PyProof.Rows L2
open PySem.W (Frag)
structure OwnC (K : Frag) (C : Addr) : Prop where
  cl : Cls K C
  ha : PySem.W.findIn K (.ref C) "__class__" = some (some (.builtin "object.__class__"))
  hn : PySem.W.specialIn K (.builtin "object.__class__") "__get__" = some (some (.builtin "getset_descriptor.__get__"))
  ht : PySem.W.takesIn K (.builtin "object.__class__") = some true
  hm : PySem.W.mroIn K C (.type "object") = some true
def ownB (K : Frag) (C : Addr) : Bool := PySem.W.plainGet K C Str.empty && (PySem.W.hasDictIn K C && (PySem.W.plainOver K C && (eqO (PySem.W.findIn K (.ref C) "__setattr__") (some (some (.builtin "object.__setattr__"))) &&
  (eqO (PySem.W.findIn K (.ref C) "__class__") (some (some (.builtin "object.__class__"))) && (eqO (PySem.W.specialIn K (.builtin "object.__class__") "__get__") (some (some (.builtin "getset_descriptor.__get__"))) &&
  (decide (PySem.W.takesIn K (.builtin "object.__class__") = some true) && decide (PySem.W.mroIn K C (.type "object") = some true)))))))
theorem ownB_ok {K : Frag} {C : Addr} (h : ownB K C = true) : OwnC K C := by
  unfold ownB at h
  simp only [Bool.and_eq_true] at h
  obtain ⟨h0, h1, h2, h3, h4, h5, h6, h7⟩ := h
  exact ⟨⟨h0, h1, h2, eqO_ok h3⟩, eqO_ok h4, eqO_ok h5, of_decide_eq_true h6, of_decide_eq_true h7⟩
inductive TY where
  | bt (k : TK) | cl (c : Nat)
def tyY (h : Hea) (d : Val) : Option TY := match insOf h d with
  | some (c, _) => some (.cl c)
  | none => (tyK h d).map .bt
structure Dun (K : Frag) (C : Addr) (m : Str) (f : Addr) : Prop where
  at_ : PySem.W.findIn K (.ref C) m = some (some (.ref f))
  fn : PySem.W.isFn K (.ref f) = true
  fi : PySem.W.fnIn K f = true
def dunB (m : Str) (K : Frag) (C : Addr) : Bool := eqO (PySem.W.findIn K (.ref C) m) (some (some (.ref (He.ma K C m)))) && (PySem.W.isFn K (.ref (He.ma K C m)) && PySem.W.fnIn K (He.ma K C m))
theorem dunB_ok {m : Str} {K : Frag} {C : Addr} (h : dunB m K C = true) : Dun K C m (He.ma K C m) := by
  unfold dunB at h
  simp only [Bool.and_eq_true] at h
  exact ⟨eqO_ok h.1, h.2.1, h.2.2⟩
section
variable {X : Cx} {CX : CXT} {k : Nat} {f C : Addr} {fd : FuncData} {ps : List Str} {sp : Sp} {E : L2.St → XK} {pins : List (Addr × Obj)} {σ : L2.St} {H : Hp} {s : Shared}
theorem run_ow {A : Around} {Q : VK} {us : List Value} {vs : List V} (F : FnOk X.prog X.w X.K X.mg X.base CX k f fd ps sp) (hr : Room k A) (e0 : Env0 X.prog X.w X.K X.mg X.base A X.stack s H) (hb : Binds X.K fd ps []) (hx : PassesAt CX X σ (E σ))
    (I : Inv X pins σ H s) (r : Vals vs us) (h : sp vs H Q (E σ)) : wpAny (model X.prog X.w) A (call (.ref f) us) (EP X pins σ Q) X.xe s := by
  have hl : us.length = ps.length := by rw [← r.length]; exact F.len _ _ _ _ h
  have b := hb s us I.kIn (by rw [List.append_nil]; exact hl)
  rw [List.append_nil] at b
  refine wpAny_call (codeAny_mono (F.run A X.stack s H ⟨us, []⟩ us vs Q (E σ) hr e0 b r h) fun r s' hq => ?_)
  cases r with
  | error e => exact hx pins H s e s' I hq
  | ok fl =>
    cases fl with
    | ret u => exact I.after hq
    | next => exact False.elim hq
    | brk => exact False.elim hq
    | cont => exact False.elim hq
end
section
variable {X : Cx} {CX : CXT} {k : Nat} {f C : Addr} {fd : FuncData} {ps : List Str} {sp : Sp} {E : L2.St → XK} {a b : Expr} {ta tb : TE} {pos : Pos}
def tBO (r : L2.St → V → V → Hp → VK → Prop) (ta tb : TE) : TE := fun σ H Q => ta σ H fun x H1 => tb σ H1 fun y H2 => r σ x y H2 Q
/-- x[y] by an own def of x's class -/
def rIxO (C : Addr) (sp : Sp) (E : L2.St → XK) : L2.St → V → V → Hp → VK → Prop := fun σ x y H Q => ∃ a dx fs, x = .ref a ∧ H a = some (.ins C dx fs) ∧ sp [x, y] H Q (E σ)
theorem pe_ixO (D : Dun X.K C "__getitem__" f) (F : FnOk X.prog X.w X.K X.mg X.base CX k f fd ps sp) (hr : Room (k + 1) X.A) (hb : Binds X.K fd ps []) (hx : ∀ σ, PassesAt CX X σ (E σ)) (h1 : PE X a ta) (h2 : PE X b tb)
    (hsl : ∀ v i, subscripted b true v i = runValue (.builtin "lifetime.subscript" ⟨[v, i], []⟩) := by intro _ _; with_unfolding_all rfl) : PE X (.Subscript a b pos) (tBO (rIxO C sp E) ta tb) :=
  ⟨fun pins s σ H Q I h => Subscript_ (binT h1 h2 I h fun v u s2 x y H2 I2 rx ry q => by
    obtain ⟨a, dx, fs, rfl, ha, q⟩ := q
    obtain rfl : v = Value.ref a := rx
    obtain ⟨od, J⟩ := inst_of I2 ha
    obtain ⟨m, hF⟩ := I2.fr
    exact PySem.W.sub_K hF I2.ok.mod.kin J D.at_ D.fi D.fn (run_ow (us := [.ref a, u]) (vs := [.ref a, y]) F hr.in1 I2.env0.in1 hb (hx σ) I2 (.cons rfl (.cons ry .nil)) q) (hsl _ _))⟩
end
def okTY (okc : Nat → Bool) : TY → Bool
  | .bt _ => true
  | .cl c => okc c
def eCmpO (c : Nat) (okc : Nat → Bool) (cf : List Val → Hea → Res Val) (f1 f2 : En → Hea → Res Val) : En → Hea → Res Val := fun e h => (f1 e h).bind fun x h1 => (f2 e h1).bind fun y h2 => match insOf h2 x, tyY h2 y with
  | some (c', _), some t => if c' = c ∧ okTY okc t = true then cf [x, y] h2 else .stuck
  | _, _ => .stuck
def notR (r : Res Val) : Res Val := r.bind fun z h => match z with
  | .bl b => .ok (.bl (!b)) h
  | _ => .stuck
def eNeO (c : Nat) (okc : Nat → Bool) (cf : List Val → Hea → Res Val) (f1 f2 : En → Hea → Res Val) : En → Hea → Res Val := fun e h => (f1 e h).bind fun x h1 => (f2 e h1).bind fun y h2 => match insOf h2 x, tyY h2 y with
  | some (c', _), some t => if c' = c ∧ okTY okc t = true then notR (cf [x, y] h2) else .stuck
  | _, _ => .stuck
def blR (ng : Bool) (r : Res Val) : Res Val := r.bind fun z h => match z with
  | .bl b => .ok (.bl (if ng = true then !b else b)) h
  | _ => .stuck
def eInO (c : Nat) (ng : Bool) (cf : List Val → Hea → Res Val) (f1 f2 : En → Hea → Res Val) : En → Hea → Res Val := fun e h => (f1 e h).bind fun x h1 => (f2 e h1).bind fun y h2 => match insOf h2 y with
  | some (c', _) => if c' = c then blR ng (cf [y, x] h2) else .stuck
  | none => .stuck
def eIxO (c : Nat) (cf : List Val → Hea → Res Val) (f1 f2 : En → Hea → Res Val) : En → Hea → Res Val := fun e h => (f1 e h).bind fun x h1 => (f2 e h1).bind fun y h2 => match insOf h2 x with
  | some (c', _) => if c' = c then cf [x, y] h2 else .stuck
  | none => .stuck
def eLenO (c : Nat) (cf : List Val → Hea → Res Val) (f1 : En → Hea → Res Val) : En → Hea → Res Val := fun e h => (f1 e h).bind fun x h1 => match insOf h1 x with
  | some (c', _) => if c' = c then (noX (cf [x] h1)).bind fun z h2 => match z with
    | .int n => if 0 ≤ n ∧ n < 9223372036854775808 then .ok (.int n) h2 else .stuck
    | _ => .stuck
    else .stuck
  | none => .stuck
section
variable {T : Tb} {X : Cx} {W : WX} {f : Addr} {fd : FuncData} {ps : List Str} {k c : Nat} {cf : List Val → Hea → Res Val} {a b : Expr} {f1 f2 : En → Hea → Res Val} {pos p : Pos} {okc : Nat → Bool}
/-- the two operands -/
theorem two_imp {r : L2.St → V → V → Hp → VK → Prop} {k : Val → Val → Hea → Res Val} {σ : L2.St} {H : Hp} {Q : VK} (q : tE (sy T X) W (fun e h => (f1 e h).bind fun x h1 => (f2 e h1).bind fun y h2 => k x y h2) σ H Q)
    (w : ∀ ρ h x y H1 u v, Rel (sy T X) ρ h H1 → Rep (sy T X) ρ H1 x u → Rep (sy T X) ρ H1 y v → Aft (sy T X) ρ H1 (k x y h) Q (WE W σ) → r σ u v H1 Q) : tBO r (tE (sy T X) W f1) (tE (sy T X) W f2) σ H Q := by
  obtain ⟨ρ, e, h, R, E, a⟩ := q
  refine ⟨ρ, e, h, R, E, a.bind.mono fun u H1 ⟨ρ1, x, h1, s1, R1, r1, a1⟩ => ⟨ρ1, e, h1, R1, E.go s1, a1.bind.mono fun v H2 ⟨ρ2, y, h2, s2, R2, r2, a2⟩ => ?_⟩⟩
  exact w ρ2 h2 x y H2 u v R2 (r1.go s2) r2 a2
theorem se_ixO (D : Dun X.K (T.ca c) "__getitem__" f) (F : FnOk X.prog X.w X.K X.mg X.base (L2.CX X.prog X.w) k f fd ps (spEv (sy T X) cf)) (hr : Room (k + 1) X.A) (hb : Binds X.K fd ps []) (tk : Takes X W)
    (h1 : SE T X W a f1) (h2 : SE T X W b f2) (hsl : ∀ v i, subscripted b true v i = runValue (.builtin "lifetime.subscript" ⟨[v, i], []⟩) := by intro _ _; with_unfolding_all rfl) : SE T X W (.Subscript a b pos) (eIxO c cf f1 f2) :=
  (pe_ixO (E := WE W) D F hr hb (fun σ => passAt tk σ) h1 h2 hsl).imp fun σ H Q q => two_imp (k := fun x y h2 => match insOf h2 x with
  | some (c', _) => if c' = c then cf [x, y] h2 else .stuck
  | none => .stuck) q fun ρ h x y H1 u v R r1 r2 a => by
    split at a
    · rename_i c' fs hx
      split at a
      · rename_i hc
        subst hc
        obtain ⟨p, dx, ps, rfl, hi, _⟩ := ins_of R r1 hx
        exact ⟨p, dx, ps, rfl, hi, ρ, h, _, R, .cons r1 (.cons r2 .nil), a⟩
      · exact a.elim
    · exact a.elim
end
end Lad
end
section
set_option maxRecDepth 100000
set_option maxHeartbeats 2000000
namespace Lad
open PySem L2
open PySem.W (Frag)
def noList (K : Frag) : Bool := K.all fun p => decide (p.2.cls ≠ .type "list")
theorem noList_ok {K : Frag} (h : noList K = true) {a : Addr} {o : Obj} (e : K.lookup a = some o) : o.cls ≠ .type "list" := by
  have m : (a, o) ∈ K := by
    clear h
    induction K with
    | nil => cases e
    | cons p r ih =>
      obtain ⟨b, ob⟩ := p
      rw [List.lookup_cons] at e
      by_cases q : a = b
      · subst q
        simp at e
        subst e
        exact List.mem_cons_self
      · have q2 : (a == b) = false := by simpa using q
        rw [q2] at e
        exact List.mem_cons_of_mem _ (ih e)
  exact of_decide_eq_true (List.all_eq_true.mp h _ m)
/-- the law's promise out of the plain law -/
theorem sp_law {S : Sy} {cf : List Val → Hea → Res Val} {n : Nat} (nl : noList S.K = true) (p : ∀ ns : List Int, ns.length ≤ n → ∃ h, cf [.ref 0] [.fro ns] = .ok (.bl true) h) {H : Hp} {a : Addr} {ns : List Int} (hl : ns.length ≤ n)
    (hO : Only H) (hS : SqL S.K H a (ns.map V.int)) : spEv S cf [.ref a] H (fun v _ => v = .bl true) fun _ _ _ => False := by
  have hz : ∃ o, H a = some (.frz o (.lst (ns.map V.int))) := by
    rcases hS with hR | ⟨o, its, m, lk, hc, _⟩
    · rcases hR with hR | ⟨o, hR⟩
      · rcases hO a with z | ⟨o, xs, z⟩
        · rw [z] at hR; cases hR
        · rw [z] at hR; cases hR
      · exact ⟨o, hR⟩
    · exact absurd hc (noList_ok nl lk)
  obtain ⟨o, hz⟩ := hz
  refine ⟨⟨[a], []⟩, [.fro ns], [.ref 0], ⟨rfl, ?_, ?_, fun _ m => nomatch m⟩, .cons (.ref rfl) .nil, ?_⟩
  · intro i j b e1 e2
    match i, j with
    | 0, 0 => rfl
    | i + 1, _ => simp at e1
    | _, j + 1 => simp at e2
  · intro i ob b e1 e2
    match i with
    | 0 =>
      simp at e1 e2
      subst e1 e2
      exact .fro hz
    | i + 1 => simp at e1
  · obtain ⟨h, e⟩ := p ns hl
    rw [e]
    intro ρ1 v H1 s R1 r
    exact r.bl_
end Lad
end
section
set_option maxRecDepth 100000
set_option maxHeartbeats 2000000
namespace Lad
open PySem PySem.Spec PyProof.Rows L2
abbrev NPs := List (NestedKey × Addr × V)
abbrev NP : NPs → List (NestedKey × Addr × Value) → Prop := Paired fun p q => p.1 = q.1 ∧ p.2.1 = q.2.1 ∧ RelV p.2.2 q.2.2
def valN (ps : NPs) (k : NestedKey) : Option V := (ps.find? fun p => decide (p.1 = k)).map (·.2.2)
def putNk (ps : NPs) (k : NestedKey) (b : Addr) (v : V) : NPs := if (ps.any fun p => decide (p.1 = k)) = true then ps.map (fun p => if p.1 = k then (p.1, p.2.1, v) else p) else ps ++ [(k, b, v)]
def dropNk (ps : NPs) (k : NestedKey) : NPs := ps.filter fun p => decide (p.1 ≠ k)
theorem NP.val {ps : NPs} {xs : List (NestedKey × Addr × Value)} (r : NP ps xs) (k : NestedKey) : RelO (valN ps k) ((atKey xs k).map (·.2)) := by
  induction r with
  | nil => exact True.intro
  | @cons p q ps qs h t ih =>
    obtain ⟨h1, _, h3⟩ := h
    by_cases c : p.1 = k
    · have c' : q.1 = k := h1 ▸ c
      simpa [valN, atKey, List.find?_cons, c, c', RelO] using h3
    · have c' : ¬ q.1 = k := fun z => c (h1 ▸ z)
      simpa [valN, atKey, List.find?_cons, c, c'] using ih
theorem NP.any {ps : NPs} {xs : List (NestedKey × Addr × Value)} (r : NP ps xs) (k : NestedKey) : (ps.any fun p => decide (p.1 = k)) = (atKey xs k).isSome := by
  induction r with
  | nil => rfl
  | @cons p q ps qs h t ih =>
    by_cases c : p.1 = k
    · have c' : q.1 = k := h.1 ▸ c
      simp [atKey, c, c']
    · have c' : ¬ q.1 = k := fun z => c (h.1 ▸ z)
      simpa [atKey, List.find?_cons, c, c'] using ih
theorem NP.repl {ps : NPs} {xs : List (NestedKey × Addr × Value)} (r : NP ps xs) (k : NestedKey) {v : V} {u : Value} (rv : RelV v u) : NP (ps.map fun p => if p.1 = k then (p.1, p.2.1, v) else p) (xs.map (putAt k u)) := by
  induction r with
  | nil => exact .nil
  | @cons p q ps qs h t ih =>
    rw [List.map_cons, List.map_cons]
    refine .cons ?_ ih
    unfold putAt
    by_cases c : p.1 = k
    · rw [if_pos c, if_pos (h.1.symm.trans c)]
      exact ⟨h.1, h.2.1, rv⟩
    · rw [if_neg c, if_neg fun z => c (h.1.trans z)]
      exact h
theorem NP.put {ps : NPs} {xs : List (NestedKey × Addr × Value)} (r : NP ps xs) (k : NestedKey) (b : Addr) {v : V} {u : Value} (rv : RelV v u) : NP (putNk ps k b v) (storedH xs k b u) := by
  unfold putNk storedH
  rw [r.any k]
  split
  · exact r.repl k rv
  · exact Paired.snoc r ⟨rfl, rfl, rv⟩
theorem NP.drop {ps : NPs} {xs : List (NestedKey × Addr × Value)} (r : NP ps xs) (k : NestedKey) : NP (dropNk ps k) (withoutH xs k) := by
  unfold dropNk withoutH
  induction r with
  | nil => exact .nil
  | @cons p q ps qs h t ih =>
    by_cases c : p.1 = k
    · have c' : q.1 = k := h.1 ▸ c
      simpa [List.filter_cons, c, c'] using ih
    · have c' : ¬ q.1 = k := fun z => c (h.1 ▸ z)
      simp only [List.filter_cons, c, c', ne_eq, not_false_eq_true, decide_true, if_true]
      exact .cons h (by simpa [List.filter_cons] using ih)
theorem NP.length {ps : NPs} {xs : List (NestedKey × Addr × Value)} (r : NP ps xs) : ps.length = xs.length := Paired.length r
end Lad
end
section
set_option maxRecDepth 100000
set_option maxHeartbeats 2000000
namespace Lad
open PySem PySem.Spec PyProof.Rows L2
def toKey : Val → Option Key
  | .int i => some (.inl i)
  | .str z => some (.inr z)
  | _ => none
def keyEq : Val → Val → Bool
  | .int a, .int b => decide (a = b)
  | .str a, .str b => decide (a = b)
  | _, _ => false
theorem keyEq_kv (a b : Key) : keyEq (kvK a) (kvK b) = decide (a = b) := by
  cases a <;> cases b <;> simp [keyEq, keyVal]
def hasK : List (Val × Val) → Val → Bool
  | [], _ => false
  | (k, _) :: r, x => keyEq k x || hasK r x
def putKv (x d : Val) (kvs : List (Val × Val)) : List (Val × Val) := if hasK kvs x = true then kvs.map (fun p => if keyEq p.1 x = true then (p.1, d) else p) else kvs ++ [(x, d)]
section
variable {S : Sy} {ρ : Own} {H : Hp}
theorem KvR.has : ∀ {kvs : List (Val × Val)} {ps : List (Key × V)} {k : Key}, KvR S ρ H kvK kvs ps → hasK kvs (kvK k) = ps.any fun kv => decide (kv.1 = k)
  | _, _, k, .nil => rfl
  | _, _, k, .cons r t => by
    unfold hasK
    rw [keyEq_kv, t.has, List.any_cons]
theorem KvR.app : ∀ {kvs : List (Val × Val)} {ps : List (Key × V)} {k : Key} {d : Val} {v : V}, KvR S ρ H kvK kvs ps → Rep S ρ H d v → KvR S ρ H kvK (kvs ++ [(kvK k, d)]) (ps ++ [(k, v)])
  | _, _, k, d, v, .nil, q => .cons q .nil
  | _, _, k, d, v, .cons r t, q => .cons r (t.app q)
theorem KvR.rep : ∀ {kvs : List (Val × Val)} {ps : List (Key × V)} {k : Key} {d : Val} {v : V}, KvR S ρ H kvK kvs ps → Rep S ρ H d v → KvR S ρ H kvK (kvs.map (fun p => if keyEq p.1 (kvK k) = true then (p.1, d) else p)) (ps.map fun kv => if kv.1 = k then (kv.1, v) else kv)
  | _, _, k, d, v, .nil, q => .nil
  | _, _, k, d, v, .cons (k := k') r t, q => by
    rw [List.map_cons, List.map_cons]
    simp only [keyEq_kv]
    by_cases h : k' = k
    · rw [if_pos (decide_eq_true h), if_pos h]
      have := t.rep (k := k) q
      exact .cons q (by simpa only [keyEq_kv] using this)
    · rw [if_neg (by simpa using h), if_neg h]
      have := t.rep (k := k) q
      exact .cons r (by simpa only [keyEq_kv] using this)
theorem KvR.put {kvs : List (Val × Val)} {ps : List (Key × V)} {k : Key} {d : Val} {v : V} (t : KvR S ρ H kvK kvs ps) (q : Rep S ρ H d v) : KvR S ρ H kvK (putKv (kvK k) d kvs) (putK ps k v) := by
  unfold putKv putK
  rw [t.has]
  split
  · exact t.rep q
  · exact t.app q
theorem KvR.length {κ : Type} {kd : κ → Val} : ∀ {kvs : List (Val × Val)} {ps : List (κ × V)}, KvR S ρ H kd kvs ps → kvs.length = ps.length
  | _, _, .nil => rfl
  | _, _, .cons _ t => by simp [t.length]
theorem KvR.zip {κ : Type} {kd : κ → Val} : ∀ {ks ds : List Val} {ps : List (κ × V)}, ks = ps.map (fun p => kd p.1) → Reps S ρ H ds (ps.map (·.2)) → KvR S ρ H kd (ks.zip ds) ps
  | _, _, [], e, r => by subst e; exact .nil
  | _, _, p :: ps, e, r => by
    subst e
    rw [List.map_cons] at r
    cases r with
    | cons q t => exact .cons q (KvR.zip rfl t)
end
def kEq (a b : Val) : Bool := match toNK a, toNK b with
  | some x, some y => NestedKey.beq x y
  | _, _ => false
def hasN : List (Val × Val) → Val → Bool
  | [], _ => false
  | (k, _) :: r, x => kEq k x || hasN r x
def putNv (x d : Val) (kvs : List (Val × Val)) : List (Val × Val) := if hasN kvs x = true then kvs.map (fun p => if kEq p.1 x = true then (p.1, d) else p) else kvs ++ [(x, d)]
theorem kEq_eq {a b : Val} {x y : NestedKey} (e1 : toNK a = some x) (e2 : toNK b = some y) : kEq a b = decide (x = y) := by
  unfold kEq
  rw [e1, e2, NestedKey.decide_eq]
section
variable {S : Sy} {ρ : Own} {H : Hp}
theorem KvN.has {x : Val} {k : NestedKey} (e : toNK x = some k) : ∀ {kvs : List (Val × Val)} {ps : NPs}, KvN S ρ H kvs ps → hasN kvs x = ps.any fun p => decide (p.1 = k)
  | _, _, .nil => rfl
  | _, _, .cons r e' q t => by
    unfold hasN
    rw [kEq_eq e' e, t.has e, List.any_cons]
theorem KvN.app {x d : Val} {k : NestedKey} {b : Addr} {v : V} (rk : Rep S ρ H x (.ref b)) (e : toNK x = some k) (rd : Rep S ρ H d v) : ∀ {kvs : List (Val × Val)} {ps : NPs}, KvN S ρ H kvs ps → KvN S ρ H (kvs ++ [(x, d)]) (ps ++ [(k, b, v)])
  | _, _, .nil => .cons rk e rd .nil
  | _, _, .cons r e' q t => .cons r e' q (t.app rk e rd)
theorem KvN.repl {x d : Val} {k : NestedKey} {v : V} (e : toNK x = some k) (rd : Rep S ρ H d v) : ∀ {kvs : List (Val × Val)} {ps : NPs}, KvN S ρ H kvs ps → KvN S ρ H (kvs.map (fun p => if kEq p.1 x = true then (p.1, d) else p)) (ps.map fun p => if p.1 = k then (p.1, p.2.1, v) else p)
  | _, _, .nil => .nil
  | _, _, .cons (k := k') r e' q t => by
    rw [List.map_cons, List.map_cons]
    dsimp only
    rw [kEq_eq e' e]
    by_cases h : k' = k
    · rw [if_pos (decide_eq_true h), if_pos h]
      exact .cons r e' rd (t.repl e rd)
    · rw [if_neg (by simpa using h), if_neg h]
      exact .cons r e' q (t.repl e rd)
theorem KvN.put {x d : Val} {k : NestedKey} {b : Addr} {v : V} {kvs : List (Val × Val)} {ps : NPs} (t : KvN S ρ H kvs ps) (rk : Rep S ρ H x (.ref b)) (e : toNK x = some k) (rd : Rep S ρ H d v) : KvN S ρ H (putNv x d kvs) (putNk ps k b v) := by
  unfold putNv putNk
  rw [t.has e]
  split
  · exact t.repl e rd
  · exact t.app rk e rd
theorem KvN.length : ∀ {kvs : List (Val × Val)} {ps : NPs}, KvN S ρ H kvs ps → kvs.length = ps.length
  | _, _, .nil => rfl
  | _, _, .cons _ _ _ t => congrArg (· + 1) t.length
end
section
variable {T : Tb} {X : Cx} {W : WX} {a b : Expr} {f1 f2 f3 : En → Hea → Res Val} {pos : Pos}
theorem u1 {k : Nat} {A : Around} (hr : Room k A) : A.units + 20 < cLine := by have := hr.un; omega
/-- what a look-up gives -/
def OR (S : Sy) (ρ : Own) (H : Hp) : Option Val → Option V → Prop
  | some d, some v => Rep S ρ H d v
  | none, none => True
  | _, _ => False
theorem OR.some {S : Sy} {ρ : Own} {H : Hp} {d : Val} {o' : Option V} (h : OR S ρ H (.some d) o') : ∃ v, o' = .some v ∧ Rep S ρ H d v := by
  cases o' with
  | none => exact h.elim
  | some v => exact ⟨v, rfl, h⟩
theorem OR.none {S : Sy} {ρ : Own} {H : Hp} {o' : Option V} (h : OR S ρ H .none o') : o' = .none := by
  cases o' with
  | none => rfl
  | some v => exact h.elim
theorem OR.isSome {S : Sy} {ρ : Own} {H : Hp} {o : Option Val} {o' : Option V} (h : OR S ρ H o o') : o'.isSome = o.isSome := by
  cases o with
  | none => rw [h.none]; rfl
  | some d => obtain ⟨v, rfl, _⟩ := h.some; rfl
def setD (h : Hea) (o k v : Val) : Option Hea := match o, toKey k with
  | .ref i, some _ => (match h[i]? with
    | some (.dcK kvs) => if kvs.length < 16777216 then some (h.set i (.dcK (putKv k v kvs))) else none
    | _ => none)
  | .ref i, none => (match h[i]?, toNK k with
    | some (.dcT kvs), some _ => if kvs.length < 16777216 then some (h.set i (.dcT (putNv k v kvs))) else none
    | _, _ => none)
  | _, _ => none
def sDPut (fv fo fi : En → Hea → Res Val) : En → Hea → SRes := fun e h => ofR ((fv e h).bind fun v h1 => (fo e h1).bind fun o h2 => (fi e h2).bind fun i h3 => match setD h3 o i v with
  | some h4 => .ok Val.non h4
  | none => .stuck) e fun _ h4 => .nx e h4
end
end Lad
end
section
set_option maxRecDepth 100000
set_option maxHeartbeats 2000000
namespace Lad
open PySem L2
def strs? : List Val → Option (List Str)
  | [] => some []
  | .str z :: xs => (strs? xs).map (z :: ·)
  | _ => none
theorem strs_eq : ∀ {xs : List Val} {ns : List Str}, strs? xs = some ns → xs = ns.map Val.str
  | [], ns, e => by cases e; rfl
  | .str i :: xs, ns, e => by
    simp only [strs?] at e
    obtain ⟨ms, q, rfl⟩ := map_some e
    rw [strs_eq q]
    rfl
  | .non :: _, _, e => by cases e
  | .bl _ :: _, _, e => by cases e
  | .int _ :: _, _, e => by cases e
  | .tup _ :: _, _, e => by cases e
  | .ref _ :: _, _, e => by cases e
  | .exn _ _ :: _, _, e => by cases e
  | .lst _ :: _, _, e => by cases e
  | .dic _ _ _ :: _, _, e => by cases e
  | .obj _ _ _ :: _, _, e => by cases e
theorem Reps.strs {S : Sy} {ρ : Own} {H : Hp} : ∀ {ns : List Str} {vs : List V}, Reps S ρ H (ns.map Val.str) vs → vs = ns.map V.str
  | [], _, .nil => rfl
  | n :: ns, _, .cons r t => by
    cases r
    rw [Reps.strs t]
    rfl
/-- the first place of z -/
def idxS : List Str → Str → Option Nat
  | [], _ => none
  | y :: ys, z => if y = z then some 0 else (idxS ys z).map (· + 1)
theorem idxS_ok : ∀ {ys : List Str} {z : Str} {j : Nat}, idxS ys z = some j → ys[j]? = some z ∧ ∀ m, m < j → ys[m]? ≠ some z
  | y :: ys, z, j, e => by
    unfold idxS at e
    split at e
    · rename_i h
      cases e
      exact ⟨by rw [h]; rfl, fun m hm => by omega⟩
    · rename_i h
      obtain ⟨i, e1, rfl⟩ := map_some e
      obtain ⟨h1, h2⟩ := idxS_ok e1
      refine ⟨h1, fun m hm => ?_⟩
      cases m with
      | zero => intro q; cases q; exact h rfl
      | succ m => exact h2 m (by omega)
def oIdxL (h : Hea) (a b : Val) : Option Val := match lstOf h a, b with
  | some xs, .str z => (strs? xs).bind fun ys => (idxS ys z).map fun j => .int (j : Nat)
  | _, _ => none
/-- o.m(e) of a list or tuple -/
def eM1 (ty : Hea → Val → Bool) (g : Hea → Val → Val → Option Val) (f1 f2 : En → Hea → Res Val) : En → Hea → Res Val := fun e h => (f1 e h).bind fun x h1 => if ty h1 x = true then (f2 e h1).bind fun y h2 => opt (g h2 x y) h2 else .stuck
def isL (h : Hea) (d : Val) : Bool := (lstOf h d).isSome
section
variable {T : Tb} {X : Cx} {W : WX} {o a : Expr} {f g : En → Hea → Res Val} {apos cpos : Pos}
theorem se_idxL (ho : SE T X W o f) (ha : SE T X W a g)
    (hbase : attributeBase o "index" X.env (eval o X.env) = eval o X.env := by rfl)
    (hfew : ((backTo cpos (starEach (a :: []) X.env)).all (fun x => !x.1) && (backToKw cpos (keywordEach [] X.env)).all (fun x => x.1.isSome)
      && decide ((a :: []).length + ([] : List Keyword).length + (if ([] : List Keyword).isEmpty then 0 else 1) < 30)) = true := by rfl)
    (hline : (apos.endLine == cpos.line) = true := by rfl) (hs : starEach (a :: []) X.env = (false, eval a X.env) :: starEach [] X.env := by rfl) (hplain : (backTo cpos (starEach [] X.env)).any (·.1) = false := by rfl) :
    SE T X W (.Call (.Attribute o "index" apos) [a] [] cpos) (eM1 isL oIdxL f g) :=
  (pe_bm PySem.F.plainAttrs_list PySem.F.slot_list_index PySem.F.type_list_index mt_index ho (pa_cons ha pa_nil hs) hbase hfew hline hs hplain).imp fun σ H Q q => by
    obtain ⟨ρ, e, h, R, E, a⟩ := q
    unfold eM1 at a
    refine ⟨ρ, e, h, R, E, a.bind.mono fun ov H1 ⟨ρ1, od, h1, s, R1, r1, a1⟩ => ?_⟩
    split at a1
    · rename_i ht
      obtain ⟨xs, hx⟩ := Option.isSome_iff_exists.mp ht
      obtain ⟨p, vs, rfl, sq, rr⟩ := R1.lstV r1 hx
      refine ⟨.inl ⟨rfl, vs, sq⟩, ρ1, e, h1, R1, E.go s, a1.bind.mono fun yv H2 ⟨ρ2, yd, h2, s2, R2, r2, a2⟩ => ?_⟩
      unfold oIdxL at a2
      split at a2
      · rename_i xs2 z hx2
        obtain ⟨p2, vs2, ev, sq2, rr2⟩ := R2.lstV (r1.go s2) hx2
        cases ev
        cases hst : strs? xs2 with
        | none => rw [hst] at a2; exact a2.elim
        | some ys =>
          rw [hst] at a2
          simp only [Option.bind_some] at a2
          cases hj : idxS ys z with
          | none => rw [hj] at a2; exact a2.elim
          | some j =>
            rw [hj] at a2
            obtain ⟨h1, h2⟩ := idxS_ok hj
            obtain rfl := strs_eq hst
            obtain rfl := rr2.strs
            obtain rfl := r2.str_
            refine ⟨p, ys.map V.str, .str z, j, .str z, rfl, rfl, sq2, rfl, flat_strs ys, by rw [List.getElem?_map, h1]; rfl, by simp [eqV], fun m z' hm hz => ?_, Aft.same (d := .int _) a2 R2 (.int _)⟩
            rw [List.getElem?_map] at hz
            obtain ⟨w, hw, rfl⟩ := map_some hz
            have : w ≠ z := fun q => h2 m hm (by rw [hw, q])
            simp [eqV, this]
      · exact a2.elim
    · exact a1.elim
/-- C.index(e), C a tuple of texts that the module holds -/
def TupD (K : PySem.W.Frag) (mg : Str → Option Value) (x : Str) : Prop := ∃ a o, mg x = some (.ref a) ∧ K.lookup a = some o ∧ o.cls = .type "tuple" ∧ o.dict = none
def tupDB (x : Str) (K : PySem.W.Frag) : Bool := match PySem.W.nsIn K mainGlobals x with
  | some (some (.ref a)) => (match K.lookup a with
    | some o => decide (o.cls = .type "tuple") && o.dict.isNone
    | none => false)
  | _ => false
theorem tupDB_ok {K : PySem.W.Frag} {h : Heap} {mg : Str → Option Value} {x : Str} (Z : K.In h) (G : h.Ns mainGlobals mg) (c : tupDB x K = true) : TupD K mg x := by
  unfold tupDB at c
  split at c
  · rename_i a e
    split at c
    · rename_i o lk
      obtain ⟨h1, h2⟩ := Bool.and_eq_true_iff.mp c
      exact ⟨a, o, PySem.W.mg_of Z G e, lk, of_decide_eq_true h1, Option.isNone_iff_eq_none.mp h2⟩
    · cases c
  · cases c
def eIdxC (ys : List Str) (g : En → Hea → Res Val) : En → Hea → Res Val := fun e h => (g e h).bind fun y h1 => match y with
  | .str z => opt ((idxS ys z).map fun j => .int (j : Nat)) h1
  | _ => .stuck
theorem se_idxC {x : Str} {ys : List Str} {p : Pos} (c : ConOk X.K X.mg x (.tup (ys.map Val.str))) (t : TupD X.K X.mg x) (ha : SE T X W a g) (hg : Gl X x := by rfl) (hd : (x == ("__debug__" : Str)) = false := by decide)
    (hbase : attributeBase (.Name x p) "index" X.env (eval (.Name x p) X.env) = eval (.Name x p) X.env := by rfl)
    (hfew : ((backTo cpos (starEach (a :: []) X.env)).all (fun x => !x.1) && (backToKw cpos (keywordEach [] X.env)).all (fun x => x.1.isSome)
      && decide ((a :: []).length + ([] : List Keyword).length + (if ([] : List Keyword).isEmpty then 0 else 1) < 30)) = true := by rfl)
    (hline : (apos.endLine == cpos.line) = true := by rfl) (hs : starEach (a :: []) X.env = (false, eval a X.env) :: starEach [] X.env := by rfl) (hplain : (backTo cpos (starEach [] X.env)).any (·.1) = false := by rfl) :
    SE T X W (.Call (.Attribute (.Name x p) "index" apos) [a] [] cpos) (eIdxC ys g) := by
  obtain ⟨b, o, mb, lk, hc, hdn⟩ := t
  obtain ⟨u, m, v, r, q⟩ := c
  rw [mb] at m
  cases m
  have ev : v = .ref b := by
    cases v with
    | ref c => cases (show Value.ref b = Value.ref c from r); rfl
    | non => cases (show Value.ref b = Value.none from r)
    | bl c => cases (show Value.ref b = Value.bool c from r)
    | int c => obtain ⟨_, z⟩ := (show ∃ t, Value.ref b = Value.int c t from r); cases z
    | str c => obtain ⟨_, z⟩ := (show ∃ t, Value.ref b = Value.str c t from r); cases z
    | byt c => obtain ⟨_, z⟩ := (show ∃ t, Value.ref b = Value.bytes c t from r); cases z
    | flt c => obtain ⟨_, z⟩ := (show ∃ t, Value.ref b = Value.float c t from r); cases z
    | ty c => cases (show Value.ref b = Value.type c from r)
  subst ev
  refine (pe_bm PySem.F.plainAttrs_tuple PySem.F.slot_tuple_index PySem.F.type_tuple_index mt_tup_index (pe_glob hg mb r hd) (pa_cons ha pa_nil hs) hbase hfew hline hs hplain).imp fun σ H Q qq => ?_
  obtain ⟨ρ, e, h, R, E, a⟩ := qq
  unfold eIdxC at a
  refine ⟨.inr (.inl ⟨rfl, o, lk, hc, hdn⟩), ρ, e, h, R, E, a.bind.mono fun yv H2 ⟨ρ2, yd, h2, s2, R2, r2, a2⟩ => ?_⟩
  split at a2
  · rename_i z
    cases hj : idxS ys z with
    | none => rw [hj] at a2; exact a2.elim
    | some j =>
      rw [hj] at a2
      obtain ⟨h1, h2⟩ := idxS_ok hj
      obtain ⟨p2, vs, ev2, sq, rr⟩ := (q (sy T X) ρ2 H2 rfl).tup_
      cases ev2
      obtain rfl := rr.strs
      obtain rfl := r2.str_
      exact ⟨b, ys, z, j, rfl, rfl, sq.sq, h1, h2, Aft.same (d := .int _) a2 R2 (.int _)⟩
  · exact a2.elim
end
end Lad
end
section
set_option maxRecDepth 100000
set_option maxHeartbeats 2000000
namespace Lad
open PySem L2
theorem wipe_wipe (σ : St) (vs : List Nat) : L2.wipe (L2.wipe σ vs) vs = L2.wipe σ vs := by
  have key : ∀ (ws : List Nat) (τ : St), (∀ i ∈ ws, ∀ y, τ[i]? ≠ some (some y)) → L2.wipe τ ws = τ := by
    intro ws
    induction ws with
    | nil => intro _ _; rfl
    | cons w ws ih =>
      intro τ hτ
      show (L2.wipe τ ws).set w none = τ
      rw [ih τ fun i hi => hτ i (List.mem_cons_of_mem _ hi)]
      apply List.ext_getElem?
      intro n
      by_cases hn : w = n
      · subst hn
        by_cases hl : w < τ.length
        · rw [List.getElem?_set_self hl]
          have := hτ w List.mem_cons_self
          cases q : τ[w]? with
          | none => rw [List.getElem?_eq_none_iff] at q; omega
          | some o =>
            cases o with
            | none => rfl
            | some y => exact absurd q (this y)
        · rw [List.getElem?_eq_none_iff.mpr (by simpa using hl), List.getElem?_eq_none_iff.mpr (by simpa using hl)]
      · rw [List.getElem?_set_ne hn]
  exact key vs _ fun i hi y hy => (wipe_some hy).2 hi
/-- while the list at D is made -/
structure MkL (S : Sy) (ρ1 : Own) (H1 : Hp) (D : Addr) (ρ : Own) (h : Hea) (acc : List Val) (H : Hp) : Prop where
  z : H1 D = none
  nη : D ∉ ρ1.hd
  hh : ρ.hd = D :: ρ1.hd
  g : Go S ρ1 H1 ⟨ρ.nm, ρ1.hd⟩ H
  R : Rel S ρ h H
  at_ : ∃ us, H D = some (.lst us) ∧ Reps S ρ H acc us
  off : Off ρ D
section
variable {S : Sy} {ρ1 ρ ρ' : Own} {H1 H H' : Hp} {D : Addr} {h h' : Hea} {acc : List Val}
theorem MkL.start (R : Rel S ρ1 h H1) (z : H1 D = none) : MkL S ρ1 H1 D (ρ1.hide D) h [] (upd H1 D (.lst [])) :=
  ⟨z, (R.fz z).2, rfl, .side z, R.hideNew z, ⟨[], upd_same, .nil⟩, fun i q => R.free z q⟩
theorem MkL.mv (m : MkL S ρ1 H1 D ρ h acc H) : Mv S ρ1 H1 ρ H := m.g.mvh m.hh m.z
theorem MkL.go (m : MkL S ρ1 H1 D ρ h acc H) (g : Go S ρ H ρ' H') (R : Rel S ρ' h' H') : MkL S ρ1 H1 D ρ' h' acc H' := by
  obtain ⟨us, hD, rA⟩ := m.at_
  refine ⟨m.z, m.nη, g.hd.trans m.hh, m.g.trans (g.reh m.hh), R, ⟨us, g.lst hD m.off, rA.go g⟩, fun i z => ?_⟩
  rcases g.nw i D z with ⟨j, q⟩ | q
  · exact m.off j q
  · rw [hD] at q; cases q
theorem MkL.add (m : MkL S ρ1 H1 D ρ h acc H) {y : Val} {v : V} (r : Rep S ρ H y v) (hl : acc.length < 16777216) :
    ∃ us, H D = some (.lst us) ∧ us.length < sizeLine ∧ MkL S ρ1 H1 D ρ h (acc ++ [y]) (upd H D (.lst (us ++ [v]))) ∧ Mv S ρ H ρ (upd H D (.lst (us ++ [v]))) := by
  obtain ⟨us, hD, rA⟩ := m.at_
  have mD : D ∈ ρ.hd := by rw [m.hh]; exact List.mem_cons_self
  have mv : Mv S ρ H ρ (upd H D (.lst (us ++ [v]))) := .hid mD hD True.intro
  have rl := rA.length
  exact ⟨us, hD, by rw [sizeLine_eq]; omega, ⟨m.z, m.nη, m.hh, m.g.tmp m.z hD, m.R.off m.off mD hD True.intro, ⟨_, upd_same, (rA.app (.one r)).mono mv⟩, m.off⟩, mv⟩
theorem MkL.fin (m : MkL S ρ1 H1 D ρ h acc H) {Q : VK} {W : XK} (a : AftL S ρ1 H1 (.ok acc h) Q W) : Q (.ref D) H := by
  obtain ⟨us, hD, rA⟩ := m.at_
  obtain ⟨k1, k2, k3⟩ := m.R.shown m.hh m.nη m.off hD rA
  exact a ⟨ρ.nm, ρ1.hd⟩ D us H m.g k1 hD ⟨m.off, m.nη⟩ m.z k2 k3
theorem AftL.noI {r : Res Src} {k : Src → Hea → Res (List Val)} {Q : VK} {W : XK} (a : AftL S ρ H ((Lad.noX r).bind k) Q W) :
    ∃ d h1, r = .ok d h1 ∧ AftL S ρ H (k d h1) Q W := by
  cases r with
  | ok d h => exact ⟨d, h, rfl, a⟩
  | exc c d h => exact a.elim
  | stuck => exact a.elim
end
theorem resAssoc {α β γ : Type} (r : Res α) (f : α → Hea → Res β) (g : β → Hea → Res γ) : (r.bind f).bind g = r.bind fun a h => (f a h).bind g := by cases r <;> rfl
def comp2G (it : Nat → Hea → Option (Option Val)) (b : Val → En → Option En) (tt : En → Hea → Res Val) (src1 : En → Hea → Res Src) (own1 : List Nat) (b1 : Val → En → Option En) (tt1 f : En → Hea → Res Val) (e0 : En) : Nat → Nat → List Val → Hea → Res (List Val)
  | 0, _, _, _ => .stuck
  | n + 1, k, acc, h => match it k h with
    | some none => .ok acc h
    | some (some v) => match b v e0 with
      | some e1 => (noX (tt e1 h)).bind fun c h1 => match c with
        | .bl true => (noX (src1 e1 h1)).bind fun s h2 => (compG s.item b1 tt1 f (wipeE e1 own1) s.fuel 0 acc h2).bind fun acc' h3 => comp2G it b tt src1 own1 b1 tt1 f e0 n (k + 1) acc' h3
        | .bl false => comp2G it b tt src1 own1 b1 tt1 f e0 n (k + 1) acc h1
        | _ => .stuck
      | none => .stuck
    | none => .stuck
def lComp2 (own own1 : List Nat) (src : En → Hea → Res Src) (b : Val → En → Option En) (tt : En → Hea → Res Val) (src1 : En → Hea → Res Src) (b1 : Val → En → Option En) (tt1 f : En → Hea → Res Val) : En → Hea → Res (List Val) := fun e h => (src e h).bind fun s h1 => comp2G s.item b tt src1 own1 b1 tt1 f (wipeE e own) s.fuel 0 [] h1
section
variable {T : Tb} {X : Cx} {W : WX} {tg iter tg1 iter1 elt : Expr} {ifs ifs1 : List Expr} {scope : Scope} {own : List (Str × Nat)} {own1 : List Nat} {src src1 : En → Hea → Res Src} {tt tt1 f : En → Hea → Res Val} {g g1 : TG} {b b1 : Val → En → Option En} {pos : Pos}
theorem lc2_imp (ok : GOk (sy T X) (own.map (·.2)) g b) (ok1 : GOk (sy T X) own1 g1 b1) {σ : St} {H : Hp} {Q : VK} (q : tL (sy T X) W (lComp2 (own.map (·.2)) own1 src b tt src1 b1 tt1 f) σ H Q) :
    tLc2 (tI (sy T X) W src) g (tB (tE (sy T X) W0 tt)) (tI (sy T X) W0 src1) g1 (tB (tE (sy T X) W0 tt1)) (tE (sy T X) W0 f) (own.map (·.2)) own1 σ H Q := by
  obtain ⟨ρ, e, h, R, E, a⟩ := q
  refine ⟨ρ, e, h, R, E, (AftL.bindI a).mono fun J H1 ⟨ρ1, d, h1, s, R1, j, a1⟩ => fun D hD => ?_⟩
  have E1 : ER (sy T X) ρ1 H1 e σ := E.go s
  have ew := E1.wipe (own.map (·.2))
  refine ⟨fun k m Hc => ∃ ρ2 h2 acc, MkL (sy T X) ρ1 H1 D ρ2 h2 acc Hc ∧ AftL (sy T X) ρ1 H1 (comp2G d.item b tt src1 own1 b1 tt1 f (wipeE e (own.map (·.2))) m k acc h2) Q (fun c d H' => W c d σ H'),
    ⟨d.fuel, ρ1.hide D, h1, [], .start R1 hD, a1⟩, fun k m Hc w => ?_⟩
  obtain ⟨ρ2, h2, acc, M2, a2⟩ := w
  cases m with
  | zero => exact a2.elim
  | succ m =>
    have jk := j ρ2 Hc h2 M2.mv M2.R k
    unfold comp2G at a2
    cases hit : d.item k h2 with
    | none => rw [hit] at a2; exact a2.elim
    | some o =>
      rw [hit] at a2 jk
      cases o with
      | none => exact .inl ⟨jk, M2.fin a2⟩
      | some v =>
        refine .inr ⟨jk.1, fun Hc => ∃ ρ2 h2 acc, MkL (sy T X) ρ1 H1 D ρ2 h2 acc Hc ∧ AftL (sy T X) ρ1 H1 (comp2G d.item b tt src1 own1 b1 tt1 f (wipeE e (own.map (·.2))) m (k + 1) acc h2) Q (fun c d H' => W c d σ H'),
          fun H' z => ⟨m, Nat.lt_succ_self m, z⟩, fun x H' y => ?_⟩
        obtain ⟨g3, R3, r3⟩ := jk.2 x H' y
        dsimp only at a2
        cases hbv : b v (wipeE e (own.map (·.2))) with
        | none => rw [hbv] at a2; exact a2.elim
        | some e3 =>
          rw [hbv] at a2
          have M3 := M2.go g3 R3
          refine ok ρ2 H' h2 _ _ v x e3 _ R3 (ew.mono M3.mv) r3 hbv fun σ3 E3 w3 => ⟨w3.trans (wipe_wipe _ _), ρ2, e3, h2, R3, E3, ?_⟩
          dsimp only at a2
          obtain ⟨cb, hb1, ht, a3⟩ := a2.noX
          rw [ht]
          refine fun ρ5 v5 H5 s5 R5 r5 => ?_
          have M5 := M3.go s5 R5
          split at a3
          · obtain rfl := r5.bl_
            refine ⟨true, rfl, itT rfl ?_⟩
            obtain ⟨d1, hb2, hs1, a4⟩ := a3.noI
            refine ⟨ρ5, e3, hb1, R5, E3.go s5, ?_⟩
            rw [hs1]
            refine fun ρ6 H6 J1 s6 R6 j1 => ?_
            have M6 := M5.go s6 R6
            have E6 := ((E3.go s5).go s6).wipe own1
            refine ⟨fun jj kk Hc => ∃ ρ7 h7 acc, MkL (sy T X) ρ1 H1 D ρ7 h7 acc Hc ∧ Mv (sy T X) ρ6 H6 ρ7 Hc ∧ AftL (sy T X) ρ1 H1 ((compG d1.item b1 tt1 f (wipeE e3 own1) kk jj acc h7).bind fun acc' h3 => comp2G d.item b tt src1 own1 b1 tt1 f (wipeE e (own.map (·.2))) m (k + 1) acc' h3) Q (fun c d H' => W c d σ H'),
              ⟨d1.fuel, ρ6, hb2, acc, M6, .rfl, a4⟩, fun jj kk Hc w => ?_⟩
            obtain ⟨ρ7, h7, acc7, M7, mv7, a7⟩ := w
            cases kk with
            | zero => exact a7.elim
            | succ kk =>
              have jk1 := j1 ρ7 Hc h7 mv7 M7.R jj
              unfold compG at a7
              cases hit1 : d1.item jj h7 with
              | none => rw [hit1] at a7; exact a7.elim
              | some o =>
                rw [hit1] at a7 jk1
                cases o with
                | none => exact .inl ⟨jk1, ρ7, h7, acc7, M7, a7⟩
                | some v1 =>
                  refine .inr ⟨jk1.1, fun Hc => ∃ ρ7 h7 acc, MkL (sy T X) ρ1 H1 D ρ7 h7 acc Hc ∧ Mv (sy T X) ρ6 H6 ρ7 Hc ∧ AftL (sy T X) ρ1 H1 ((compG d1.item b1 tt1 f (wipeE e3 own1) kk (jj + 1) acc h7).bind fun acc' h3 => comp2G d.item b tt src1 own1 b1 tt1 f (wipeE e (own.map (·.2))) m (k + 1) acc' h3) Q (fun c d H' => W c d σ H'),
                    fun H' z => ⟨kk, Nat.lt_succ_self kk, z⟩, fun x H' y => ?_⟩
                  obtain ⟨g8, R8, r8⟩ := jk1.2 x H' y
                  dsimp only at a7
                  cases hbv1 : b1 v1 (wipeE e3 own1) with
                  | none => rw [hbv1] at a7; exact a7.elim
                  | some e8 =>
                    rw [hbv1] at a7
                    have M8 := M7.go g8 R8
                    have mv8 := mv7.trans g8.mv
                    refine ok1 ρ7 H' h7 _ _ v1 x e8 _ R8 (E6.mono mv8) r8 hbv1 fun σ8 E8 w8 => ⟨w8.trans (wipe_wipe _ _), ρ7, e8, h7, R8, E8, ?_⟩
                    dsimp only at a7
                    rw [resAssoc] at a7
                    obtain ⟨cb1, hb8, ht1, a9⟩ := a7.noX
                    rw [ht1]
                    refine fun ρ9 v9 H9 s9 R9 r9 => ?_
                    have M9 := M8.go s9 R9
                    have mv9 := mv8.trans s9.mv
                    split at a9
                    · obtain rfl := r9.bl_
                      refine ⟨true, rfl, itT rfl ?_⟩
                      rw [resAssoc] at a9
                      obtain ⟨yv, hb10, hf, a10⟩ := a9.noX
                      refine ⟨ρ9, e8, hb8, R9, E8.go s9, ?_⟩
                      rw [hf]
                      refine fun ρ10 v10 H10 s10 R10 r10 => ?_
                      have M10 := M9.go s10 R10
                      split at a10
                      · rename_i hl
                        obtain ⟨us, hD10, hz, M11, mv11⟩ := M10.add r10 hl
                        exact ⟨us, hD10, hz, ρ10, hb10, acc7 ++ [yv], M11, (mv9.trans s10.mv).trans mv11, a10⟩
                      · exact a10.elim
                    · obtain rfl := r9.bl_
                      exact ⟨false, rfl, itF rfl ⟨ρ9, hb8, acc7, M9, mv9, a9⟩⟩
                    · exact a9.elim
          · obtain rfl := r5.bl_
            exact ⟨false, rfl, itF rfl ⟨ρ5, hb1, acc, M5, a3⟩⟩
          · exact a3.elim
theorem st_setLc2F {i : Nat} {y : Str} {py spos : Pos} (hc : X.calm = true) (hN : X.N.Nodup) (hy : X.N[i]? = some y) (hyl : X.env.scope.names.lookup y = some .local)
    (hsw : swapsWith (.ListComp elt [⟨tg, iter, ifs, 0⟩, ⟨tg1, iter1, ifs1, 0⟩] scope pos) (some (.Name y py)) spos.line X.env = pure true) (hi : SI T X W tg iter src) (bk : BlkOk X.N X.env.scope scope own) (hv : ∀ i ∈ own1, i ∈ own.map (·.2))
    (hg : ∀ (s : Shared) (H : Hp) (C : Addr) (cl : List (Str × Addr)) (fp : List Addr), PG (X.blk s H scope (compEnvC scope cl C X.env) fp) tg g)
    (ok : GOk (sy T X) (own.map (·.2)) g b)
    (ht : ∀ (s : Shared) (H : Hp) (C : Addr) (cl : List (Str × Addr)) (fp : List Addr), STs T (X.blk s H scope (compEnvC scope cl C X.env) fp) W0 ifs tt)
    (hi1 : ∀ (s : Shared) (H : Hp) (C : Addr) (cl : List (Str × Addr)) (fp : List Addr), SI T (X.blk s H scope (compEnvC scope cl C X.env) fp) W0 tg1 iter1 src1)
    (hg1 : ∀ (s : Shared) (H : Hp) (C : Addr) (cl : List (Str × Addr)) (fp : List Addr), PG (X.blk s H scope (compEnvC scope cl C X.env) fp) tg1 g1)
    (ok1 : GOk (sy T X) own1 g1 b1)
    (ht1 : ∀ (s : Shared) (H : Hp) (C : Addr) (cl : List (Str × Addr)) (fp : List Addr), STs T (X.blk s H scope (compEnvC scope cl C X.env) fp) W0 ifs1 tt1)
    (he : ∀ (s : Shared) (H : Hp) (C : Addr) (cl : List (Str × Addr)) (fp : List Addr), SE T (X.blk s H scope (compEnvC scope cl C X.env) fp) W0 elt f)
    (hs : ∀ x, foldedSetIterable iter X.env x = pure x := by intro _; rfl) (hs1 : ∀ env x, foldedSetIterable iter1 env x = pure x := by intro _ _; rfl) :
    SSt T X W (.Assign [.Name y py] (.ListComp elt [⟨tg, iter, ifs, 0⟩, ⟨tg1, iter1, ifs1, 0⟩] scope pos) spos) (sSet i (eLst (lComp2 (own.map (·.2)) own1 src b tt src1 b1 tt1 f))) :=
  (ps_setLc2 hc hN hy hyl hsw hi bk hv hg ht hi1 hg1 ht1 he hs hs1).imp fun D σ H q => by
    refine lc2_imp (W := W) (tt := tt) (tt1 := tt1) (src1 := src1) (src := src) (f := f) (Q := fun x H1 => gName i x σ H1 D.nx) ok ok1 ?_
    obtain ⟨ρ, e, h, R, E, a⟩ := q
    refine ⟨ρ, e, h, R, E, ?_⟩
    unfold sSet eLst at a
    revert a
    cases lComp2 (own.map (·.2)) own1 src b tt src1 b1 tt1 f e h with
    | ok xs h1 => exact fun a ρ1 p vs H1 s R1 el n z r k => a ρ1 _ H1 s R1 ((E.go s).set (.lst n el r) i)
    | exc c d h1 => exact fun a ρ1 v H1 dx s R1 r x => a ρ1 v σ H1 dx s R1 r (E.go s) x
    | stuck => exact id
end
end Lad
end
section
set_option maxRecDepth 100000
set_option maxHeartbeats 2000000
namespace Lad
open PySem L2
def zipV (xs ys : List Val) : List Val := List.zipWith (fun x y => Val.tup [x, y]) xs ys
def srcZipL (d1 d2 : Val) : Src := ⟨fun k h => match lstOf h d1, lstOf h d2 with
  | some xs, some ys => if k ≤ xs.length ∧ k ≤ ys.length then some (zipV xs ys)[k]? else none
  | _, _ => none, 100000, none, fun _ h => nomatch h⟩
def iZipV (f : En → Hea → Res (List Val)) : En → Hea → Res Src := fun e h => (f e h).bind fun ds h1 => match ds with
  | [.lst xs, .lst ys] => .ok (srcFix (zipV xs ys)) h1
  | [.tup xs, .tup ys] => .ok (srcFix (zipV xs ys)) h1
  | [d1, d2] => if ((lstOf h1 d1).isSome && (lstOf h1 d2).isSome) = true then .ok (srcZipL d1 d2) h1 else .stuck
  | _ => .stuck
section
variable {S : Sy} {H : Hp} {ρ : Own}
theorem zipV_get {xs ys : List Val} {k : Nat} : (zipV xs ys)[k]? = match xs[k]?, ys[k]? with
    | some x, some y => some (.tup [x, y])
    | _, _ => none := by
  unfold zipV
  rw [List.getElem?_zipWith]
  cases xs[k]? <;> cases ys[k]? <;> rfl
end
section
variable {S : Sy} {H : Hp} {ρ : Own}
theorem j_zm {k1 k2 : ZK} {a b : Addr} {xs ys : List Val} {vs us : List V} (s1 : ∀ ρ' H', Mv S ρ H ρ' H' → k1.sq S.K H' a vs) (s2 : ∀ ρ' H', Mv S ρ H ρ' H' → k2.sq S.K H' b us) (r1 : Reps S ρ H xs vs) (r2 : Reps S ρ H ys us) : JOk S ρ H (ItzM S.K k1 k2 a b) (srcFix (zipV xs ys)).item := jfix fun ρ' H' h' g R k hk => by
  have q1 := s1 _ _ g
  have q2 := s2 _ _ g
  have r1' := r1.mono g
  have r2' := r2.mono g
  have hk : k ≤ (zipV xs ys).length := hk
  rw [show (zipV xs ys).length = min xs.length ys.length by unfold zipV; simp] at hk
  rw [zipV_get]
  have ln1 := r1.length
  have ln2 := r2.length
  cases e1 : xs[k]? with
  | none =>
    have := List.getElem?_eq_none_iff.mp e1
    exact ⟨vs, us, q1, q2, by omega, by omega, by omega⟩
  | some x =>
    cases e2 : ys[k]? with
    | none =>
      have := List.getElem?_eq_none_iff.mp e2
      exact ⟨vs, us, q1, q2, by omega, by omega, by omega⟩
    | some y =>
      obtain ⟨v, ev, rv⟩ := r1'.get e1
      obtain ⟨u, eu, ru⟩ := r2'.get e2
      refine ⟨⟨vs, us, v, u, q1, q2, ev, eu⟩, fun z H'' ⟨t, x', y', ob, ez, nt, od, eh, w1, w2⟩ => ?_⟩
      have z1 := w1 vs q1
      have z2 := w2 us q2
      rw [ev] at z1
      rw [eu] at z2
      cases z1
      cases z2
      subst ez eh
      exact ⟨.side nt, R.side nt, .tup (.inl ⟨ob, upd_same, od⟩) (.cons (rv.mono (.side nt)) (.cons (ru.mono (.side nt)) .nil))⟩
end
theorem zip_turnM {a b : Addr} {xs ys : List Val} {vs us : List V} {k : Nat} {ρ' : Own} {H' : Hp} {h' : Hea} (hk : k ≤ xs.length ∧ k ≤ ys.length) (R : Rel S ρ' h' H') (q1 : SqL S.K H' a vs) (q2 : SqL S.K H' b us) (r1' : Reps S ρ' H' xs vs) (r2' : Reps S ρ' H' ys us) :
    match some (zipV xs ys)[k]? with
    | some none => (ItzM S.K .L .L a b).stop k H'
    | some (some d) => (ItzM S.K .L .L a b).go k H' ∧ ∀ x H'', (ItzM S.K .L .L a b).yld k H' x H'' → Go S ρ' H' ρ' H'' ∧ Rel S ρ' h' H'' ∧ Rep S ρ' H'' d x
    | none => True := by
  rw [zipV_get]
  have ln1 := r1'.length
  have ln2 := r2'.length
  cases e1 : xs[k]? with
  | none =>
    have := List.getElem?_eq_none_iff.mp e1
    exact ⟨vs, us, q1, q2, by omega, by omega, by omega⟩
  | some x =>
    cases e2 : ys[k]? with
    | none =>
      have := List.getElem?_eq_none_iff.mp e2
      exact ⟨vs, us, q1, q2, by omega, by omega, by omega⟩
    | some y =>
      obtain ⟨v, ev, rv⟩ := r1'.get e1
      obtain ⟨u, eu, ru⟩ := r2'.get e2
      refine ⟨⟨vs, us, v, u, q1, q2, ev, eu⟩, fun z H'' ⟨t, x', y', ob, ez, nt, od, eh, w1, w2⟩ => ?_⟩
      have z1 := w1 vs q1
      have z2 := w2 us q2
      rw [ev] at z1
      rw [eu] at z2
      cases z1
      cases z2
      subst ez eh
      exact ⟨.side nt, R.side nt, .tup (.inl ⟨ob, upd_same, od⟩) (.cons (rv.mono (.side nt)) (.cons (ru.mono (.side nt)) .nil))⟩
section
variable {T : Tb} {X : Cx} {W : WX} {tg a b : Expr} {g : En → Hea → Res (List Val)} {pos p tpos : Pos} {elts : List Expr} {kk : Nat}
theorem si_zip (hg : Gl X "zip") (hm : X.mg "zip" = none) (ha : SA T X W [a, b] g) (hs : starEach [a, b] X.env = (false, eval a X.env) :: starEach [b] X.env := by rfl) (hpl : (backTo pos (starEach [b] X.env)).any (·.1) = false := by rfl) :
    SI T X W (.Tuple elts kk tpos) (.Call (.Name "zip" p) [a, b] [] pos) (iZipV g) := (pi_or (pi_zm .L .L hg hm ha hs hpl) (pi_zm .T .T hg hm ha hs hpl)).imp fun σ H Q q => by
  obtain ⟨ρ, e, h, R, E, a⟩ := q
  unfold iZipV at a
  by_cases tt : ∃ xs ys h1, g e h = .ok [.tup xs, .tup ys] h1
  · obtain ⟨xs, ys, h1, hg⟩ := tt
    refine .inr ⟨ρ, e, h, R, E, ?_⟩
    rw [hg] at a ⊢
    intro ρ1 vs H1 s R1 r
    match vs, r with
    | [v1, v2], .cons r1 (.cons r2 .nil) =>
      obtain ⟨p1, us1, rfl, sq1, rr1⟩ := r1.tup_
      obtain ⟨p2, us2, rfl, sq2, rr2⟩ := r2.tup_
      exact ⟨_, _, _, _, rfl, sq1.sq, sq2.sq, (AftI.later (r := .ok (srcFix (zipV xs ys)) h1) a s) ρ1 H1 _ .rfl R1 (j_zm (fun _ _ m => m.kp.1 _ _ sq1.sq) (fun _ _ m => m.kp.1 _ _ sq2.sq) rr1 rr2)⟩
  · refine .inl ⟨ρ, e, h, R, E, ?_⟩
    cases hg : g e h with
    | ok ds h1 =>
      rw [hg] at a tt
      intro ρ1 v H1 s R1 r
      have a1 := AftI.later a s
      dsimp only [Res.bind] at a1
      split at a1
      · match v, r with
        | [v1, v2], .cons r1 (.cons r2 .nil) =>
          cases r1 with
          | lst f1 hl1 rr1 =>
            cases r2 with
            | lst f2 hl2 rr2 =>
              exact ⟨_, _, _, _, rfl, .inl (.inl hl1), .inl (.inl hl2), a1 ρ1 H1 _ .rfl R1 (j_zm (fun _ _ m => .inl (.inl (m.lst f1 hl1))) (fun _ _ m => .inl (.inl (m.lst f2 hl2))) rr1 rr2)⟩
      · exact absurd ⟨_, _, _, rfl⟩ tt
      · rename_i d1 d2 _ _
        split at a1
        · rename_i hc
          obtain ⟨c1, c2⟩ := Bool.and_eq_true_iff.mp hc
          obtain ⟨xs, hx⟩ := Option.isSome_iff_exists.mp c1
          obtain ⟨ys, hy⟩ := Option.isSome_iff_exists.mp c2
          match v, r with
          | [v1, v2], .cons r1 (.cons r2 .nil) =>
            obtain ⟨p1, us1, e1, sq1, rr1⟩ := R1.lstV r1 hx
            obtain ⟨p2, us2, e2, sq2, rr2⟩ := R1.lstV r2 hy
            refine ⟨p1, p2, us1, us2, by rw [e1, e2], sq1, sq2, a1 ρ1 H1 _ .rfl R1 fun ρ' H' h' m R' k => ?_⟩
            show match (match lstOf h' d1, lstOf h' d2 with | some xs, some ys => if k ≤ xs.length ∧ k ≤ ys.length then some (zipV xs ys)[k]? else none | _, _ => none) with | some none => _ | some (some d) => _ | none => _
            cases hx' : lstOf h' d1 with
            | none => exact True.intro
            | some xs' =>
              cases hy' : lstOf h' d2 with
              | none => exact True.intro
              | some ys' =>
                dsimp only
                by_cases hk : k ≤ xs'.length ∧ k ≤ ys'.length
                · rw [if_pos hk]
                  obtain ⟨q1, ws1, z1, sq1', rr1'⟩ := R'.lstV (r1.mono m) hx'
                  obtain ⟨q2, ws2, z2, sq2', rr2'⟩ := R'.lstV (r2.mono m) hy'
                  rw [e1] at z1
                  rw [e2] at z2
                  cases z1
                  cases z2
                  exact zip_turnM hk R' sq1' sq2' rr1' rr2'
                · rw [if_neg hk]
                  exact True.intro
        · exact a1.elim
      · exact a1.elim
    | _ => 
      rw [hg] at a
      exact a
end
end Lad
end
section
set_option maxRecDepth 100000
set_option maxHeartbeats 2000000
namespace Lad
open PySem L2
/-- while the thing at D is hidden -/
structure Hid (S : Sy) (ρ1 : Own) (H1 : Hp) (D : Addr) (o : HO) (ρ : Own) (h : Hea) (H : Hp) : Prop where
  z : H1 D = none
  nη : D ∉ ρ1.hd
  hh : ρ.hd = D :: ρ1.hd
  g : Go S ρ1 H1 ⟨ρ.nm, ρ1.hd⟩ H
  R : Rel S ρ h H
  at_ : H D = some o
  off : Off ρ D
section
variable {S : Sy} {ρ1 ρ ρ' : Own} {H1 H H' : Hp} {D : Addr} {h h' : Hea} {o o' : HO}
theorem Hid.start (R : Rel S ρ1 h H1) (z : H1 D = none) : Hid S ρ1 H1 D o (ρ1.hide D) h (upd H1 D o) :=
  ⟨z, (R.fz z).2, rfl, .side z, R.hideNew z, upd_same, fun i q => R.free z q⟩
theorem Hid.mv (m : Hid S ρ1 H1 D o ρ h H) : Mv S ρ1 H1 ρ H := m.g.mvh m.hh m.z
theorem Hid.go (m : Hid S ρ1 H1 D o ρ h H) (g : Go S ρ H ρ' H') (R : Rel S ρ' h' H') : Hid S ρ1 H1 D o ρ' h' H' := by
  refine ⟨m.z, m.nη, g.hd.trans m.hh, m.g.trans (g.reh m.hh), R, (g.fr D _ m.at_ m.off).2 (by rw [m.hh]; exact List.mem_cons_self), fun i z => ?_⟩
  rcases g.nw i D z with ⟨j, q⟩ | q
  · exact m.off j q
  · rw [m.at_] at q; cases q
/-- it gets what it holds -/
theorem Hid.put (m : Hid S ρ1 H1 D o ρ h H) (c : Ch o) : Hid S ρ1 H1 D o' ρ h (upd H D o') ∧ Mv S ρ H ρ (upd H D o') := by
  have mD : D ∈ ρ.hd := by rw [m.hh]; exact List.mem_cons_self
  refine ⟨⟨m.z, m.nη, m.hh, ?_, m.R.off m.off mD m.at_ c, upd_same, m.off⟩, .hid mD m.at_ c⟩
  exact ⟨m.g.sub, m.g.kp.trans (.put m.at_ c), fun a o q n => by rw [upd_ne (ne_of_none q m.z)]; exact m.g.fr a o q n, m.g.nw, m.g.hd⟩
/-- it is made: frozen -/
theorem Hid.out (m : Hid S ρ1 H1 D o ρ h H) : Mv S ρ H ⟨ρ.nm, ρ1.hd⟩ H ∧ Rel S ⟨ρ.nm, ρ1.hd⟩ h H ∧ Fz ⟨ρ.nm, ρ1.hd⟩ D := by
  have m1 : Mv S ρ H ⟨ρ.nm, ρ1.hd⟩ H := ⟨fun _ _ h => h, .rfl, fun a o e f => ⟨⟨o, e, .rfl⟩, f.1, fun q => f.2 (by rw [m.hh]; exact List.mem_cons_of_mem _ q)⟩⟩
  have hi : ∀ a, a ∈ ρ1.hd → (∃ u, H a = some u) ∧ Off (⟨ρ.nm, ρ1.hd⟩ : Own) a := fun a q => m.R.hid a (by rw [m.hh]; exact List.mem_cons_of_mem _ q)
  exact ⟨m1, ⟨m.R.len, m.R.inj, fun i o a e1 e2 => (m.R.ob i o a e1 e2).mono m1 rfl, hi⟩, m.off, m.nη⟩
end
abbrev FF := (En → Hea → Res Val) × (En → Hea → Res Val)
def dPrs : List FF → En → Hea → Res (List (Val × Val))
  | [], _, h => .ok [] h
  | p :: r, e, h => (noX (p.1 e h)).bind fun x h1 => (noX (p.2 e h1)).bind fun y h2 => (dPrs r e h2).bind fun l h3 => .ok ((x, y) :: l) h3
def mergeKv (acc : List (Val × Val)) : List (Val × Val) → List (Val × Val)
  | [] => acc
  | p :: r => mergeKv (putKv p.1 p.2 acc) r
def dispOk (l : List (Val × Val)) : Bool := decide (l.length ≤ 15) && l.all fun p => (toKey p.1).isSome
def eDisp (fs : List FF) : En → Hea → Res Val := fun e h => (dPrs fs e h).bind fun l h1 => if dispOk l = true then .ok (.dic false ((mergeKv [] l).map (·.1)) ((mergeKv [] l).map (·.2))) h1 else .stuck
/-- to be changed -/
def eDispK (fs : List FF) : En → Hea → Res Val := fun e h => (dPrs fs e h).bind fun l h1 => if dispOk l = true then .ok (.ref h1.length) (h1 ++ [.dcK (mergeKv [] l)]) else .stuck
end Lad
end
section
set_option maxRecDepth 100000
set_option maxHeartbeats 2000000
namespace Lad
open PySem L2
def pick {α : Type} (is : List Nat) (l : List α) : List α := is.filterMap (l[·]?)
def eMakeKwG (fn : Hea → Val → Hea → Res Val) (is : List Nat) (n m c : Nat) (cf : List Val → Hea → Res Val) (g gk : En → Hea → Res (List Val)) : En → Hea → Res Val := fun e h => (g e h).bind fun ds h1 => (gk e h1).bind fun zs h2 =>
  if ds.length = n ∧ zs.length = m then mkEnd fn h2 (cf (pick is (.ref h2.length :: (ds ++ zs))) (h2 ++ [.ins c []])) else .stuck
section
variable {T : Tb} {X : Cx} {W : WX} {x : Str} {f : Addr} {fd : FuncData} {ps ks : List Str} {k c n : Nat} {cf : List Val → Hea → Res Val} {e : Expr} {es : List Expr} {kws : List Keyword} {g gk : En → Hea → Res (List Val)} {fe : En → Hea → Res Val} {p pos kpos : Pos} {nm : Option Str} {is : List Nat} {gg : List Value → List Value → List Value}
theorem _root_.L2.PK.imp {t t' : TA} (p : PK X kws t) (h : ∀ σ H Q, t' σ H Q → t σ H Q) : PK X kws t' := ⟨fun pos pins s σ H Q I q => p.run pos pins s σ H Q I (h σ H Q q)⟩
end
end Lad
end
section
set_option maxRecDepth 100000
set_option maxHeartbeats 2000000
namespace Lad
open PySem L2
def setAny (h : Hea) (o i v : Val) : Option Hea := match setIx h o i v with
  | some h' => some h'
  | none => setD h o i v
section
variable {T : Tb} {X : Cx} {W : WX}
def putAll : List FF → List Val → En → Hea → Res Val
  | [], [], _, h => .ok .non h
  | p :: r, v :: vs, e, h => (p.1 e h).bind fun o h1 => (p.2 e h1).bind fun i h2 => match setAny h2 o i v with
    | some h3 => putAll r vs e h3
    | none => .stuck
  | _, _, _, _ => .stuck
def sPutT (fs : List FF) (f : En → Hea → Res Val) : En → Hea → SRes := fun e h => ofR ((f e h).bind fun d h1 => match d with
  | .tup ds => if ds.length = fs.length then putAll fs ds e h1 else .stuck
  | _ => .stuck) e fun _ h2 => .nx e h2
end
end Lad
end
section
set_option maxRecDepth 100000
set_option maxHeartbeats 1000000
namespace L2
open PySem PySem.Spec PyProof.Rows GenW
/-- x: the sleeping generator y, but that it cannot go on -/
def Blind (x y : GenState) : Prop := ∃ k l c p fs cl, x = .suspended (fun _ => .unsupported "") l c p fs cl ∧ y = .suspended k l c p fs cl
theorem no_unsup {M : Model} {Γ : PySem.Ctx} {p : Pos} {t : Sem PySem.Fin} {fs : List Frame} {s s' : Shared} {e : PySem.End} (h : Runs M Γ p t fs s e s') : ∀ w, t ≠ .unsupported w := by
  induction h with
  | segRet _ _ ih _ => exact ih
  | segGen _ _ ih _ => exact ih
  | segSuspOut _ _ ih => exact ih
  | segSuspGen _ _ _ _ ih _ => exact ih
  | _ => intro w z; cases z
/-- the sleepers J as they are (U) -/
def unB (J : Nat → Bool) (U : Nat → GenState) (s : Shared) : Shared := { s with gens := s.gens.mapIdx fun i x => if J i = true then U i else x }
section
variable {J : Nat → Bool} {U : Nat → GenState} {s : Shared} {j : Nat} {x : GenState}
theorem un_get : (unB J U s).gens[j]? = s.gens[j]?.map fun x => if J j = true then U j else x := by
  simp [unB]
theorem un_no (h : J j = false) : (unB J U s).gens[j]? = s.gens[j]? := by
  rw [un_get, h]
  cases s.gens[j]? <;> rfl
theorem un_yes (h : J j = true) (e : s.gens[j]? = some x) : (unB J U s).gens[j]? = some (U j) := by
  rw [un_get, h, e]
  rfl
theorem un_size : (unB J U s).gens.size = s.gens.size := by simp [unB]
theorem get_set_ne {i : Nat} (h : i ≠ j) : (s.setGen j x).gens[i]? = s.gens[i]? := by
  simp only [Shared.setGen, Array.getElem?_setIfInBounds]
  rw [if_neg (Ne.symm h)]
theorem un_set (h : J j = false) : unB J U (s.setGen j x) = (unB J U s).setGen j x := by
  unfold unB Shared.setGen
  simp only [Shared.mk.injEq, true_and, and_true]
  apply Array.ext_getElem?
  intro i
  simp only [Array.getElem?_setIfInBounds, Array.getElem?_mapIdx, Array.size_mapIdx]
  by_cases h1 : j = i
  · subst h1
    rw [if_pos rfl, if_pos rfl, h]
    by_cases h2 : j < s.gens.size
    · rw [if_pos h2]; rfl
    · rw [if_neg h2]; rfl
  · rw [if_neg h1, if_neg h1]
theorem un_push (h : J s.gens.size = false) : unB J U { s with gens := s.gens.push x } = { unB J U s with gens := (unB J U s).gens.push x } := by
  unfold unB
  simp only [Shared.mk.injEq, true_and, and_true]
  apply Array.ext_getElem?
  intro i
  simp only [Array.getElem?_push, Array.getElem?_mapIdx, Array.size_mapIdx]
  by_cases h1 : i = s.gens.size
  · rw [if_pos h1, if_pos h1, h1, h]; rfl
  · rw [if_neg h1, if_neg h1]
/-- none of the sleepers' own frames -/
def FrOk (J : Nat → Bool) (fs : List Frame) : Prop := ∀ g k l c p, Frame.gen g k l c p ∈ fs → J g = false
/-- the sleepers stand blind; the others have none of their frames -/
structure Bl (J : Nat → Bool) (U : Nat → GenState) (s : Shared) : Prop where
  yes : ∀ j, J j = true → ∃ x, s.gens[j]? = some x ∧ Blind x (U j)
  no : ∀ j k l c p fs cl, J j = false → s.gens[j]? = some (.suspended k l c p fs cl) → FrOk J fs
theorem Bl.same {s' : Shared} (b : Bl J U s) (h : s'.gens = s.gens) : Bl J U s' := ⟨fun j hj => by rw [h]; exact b.yes j hj, fun j k l c p fs cl hj => by rw [h]; exact b.no j k l c p fs cl hj⟩
theorem Bl.fresh (b : Bl J U s) : J s.gens.size = false := by
  cases h : J s.gens.size with
  | false => rfl
  | true =>
    obtain ⟨x, hx, _⟩ := b.yes _ h
    have := (Array.getElem?_eq_some_iff.mp hx).1
    omega
theorem Bl.push {c : Code} (b : Bl J U s) : Bl J U { s with gens := s.gens.push (.fresh c) } := by
  refine ⟨fun j hj => ?_, fun j k l c' p fs cl hj e => ?_⟩
  · obtain ⟨x, hx, r⟩ := b.yes j hj
    refine ⟨x, ?_, r⟩
    have hl := (Array.getElem?_eq_some_iff.mp hx).1
    show (s.gens.push (.fresh c))[j]? = _
    rw [Array.getElem?_push_lt hl]
    exact congrArg some (Array.getElem?_eq_some_iff.mp hx).2
  · have e : (s.gens.push (.fresh c))[j]? = some (.suspended k l c' p fs cl) := e
    rw [Array.getElem?_push] at e
    split at e
    · cases e
    · exact b.no j k l c' p fs cl hj e
theorem Bl.set (b : Bl J U s) (hj : J j = false) (h : ∀ k l c p fs cl, x = .suspended k l c p fs cl → FrOk J fs) : Bl J U (s.setGen j x) := by
  refine ⟨fun i hi => ?_, fun i k l c p fs cl hi e => ?_⟩
  · have ne : i ≠ j := fun z => by rw [z, hj] at hi; cases hi
    rw [get_set_ne ne]
    exact b.yes i hi
  · by_cases ne : i = j
    · subst ne
      simp only [Shared.setGen, Array.getElem?_setIfInBounds, if_true] at e
      split at e
      · cases e; exact h k l c p fs cl rfl
      · cases e
    · rw [get_set_ne ne] at e
      exact b.no i k l c p fs cl hi e
theorem Bl.ne (b : Bl J U s) (hx : s.gens[j]? = some x) (h : ∀ k l c p fs cl, x ≠ .suspended k l c p fs cl) : J j = false := by
  cases hj : J j with
  | false => rfl
  | true =>
    obtain ⟨y, hy, _, _, _, _, _, _, rfl, _⟩ := b.yes j hj
    rw [hx] at hy
    cases hy
    exact absurd rfl (h _ _ _ _ _ _)
/-- the frames of an end -/
def EOk (J : Nat → Bool) (e : PySem.End) : Prop := ∀ v g l k c p fs, e = .susp v g l k c p fs → FrOk J fs
theorem EOk.state {e : PySem.End} (h : EOk J e) : ∀ k l c p fs cl, e.genState = .suspended k l c p fs cl → FrOk J fs := by
  intro k l c p fs cl q
  cases e with
  | ret r => cases q
  | susp v g l k c p fs => cases q; exact h _ _ _ _ _ _ _ rfl
theorem split_mem : ∀ {fs pre rest : List Frame} {g : Nat} {k : GenResult → Sem PySem.Fin} {c : Code} {p : Pos}, splitAtGen fs = some (pre, (g, k, c, p), rest) → (∀ F ∈ pre, F ∈ fs) ∧ (∀ F ∈ rest, F ∈ fs) ∧ ∃ l, Frame.gen g k l c p ∈ fs
  | [], _, _, _, _, _, _, h => by cases h
  | .gen g k l c p :: fs, pre, rest, g', k', c', p', h => by
    cases h
    exact ⟨fun _ z => (nomatch z), fun F z => List.mem_cons_of_mem _ z, l, List.mem_cons_self⟩
  | .ret a b c d e f i :: fs, pre, rest, g', k', c', p', h => by
    have h : (splitAtGen fs).map (fun (x : List Frame × (Nat × (GenResult → Sem PySem.Fin) × Code × Pos) × List Frame) => (Frame.ret a b c d e f i :: x.1, x.2.1, x.2.2)) = some (pre, (g', k', c', p'), rest) := h
    cases q : splitAtGen fs with
    | none => rw [q] at h; cases h
    | some x =>
      obtain ⟨pre0, ⟨g0, k0, c0, p0⟩, rest0⟩ := x
      rw [q] at h
      cases h
      obtain ⟨h1, h2, l, h3⟩ := split_mem q
      refine ⟨fun F z => ?_, fun F z => List.mem_cons_of_mem _ (h2 F z), l, List.mem_cons_of_mem _ h3⟩
      rcases List.mem_cons.mp z with z | z
      · rw [z]; exact List.mem_cons_self
      · exact List.mem_cons_of_mem _ (h1 F z)
theorem runs_unB {M : Model} {Γ : PySem.Ctx} {p : Pos} {t : Sem PySem.Fin} {fs : List Frame} {s s' : Shared} {e : PySem.End} (h : Runs M Γ p t fs s e s') : Bl J U s → FrOk J fs →
    Bl J U s' ∧ EOk J e ∧ Runs M Γ p t fs (unB J U s) e (unB J U s') := by
  have eret : ∀ r, EOk J (.ret r) := fun r _ _ _ _ _ _ _ z => nomatch z
  have nil : FrOk J [] := fun _ _ _ _ _ z => nomatch z
  induction h with
  | done => exact fun b f => ⟨b, eret _, .done⟩
  | raise => exact fun b f => ⟨b, eret _, .raise⟩
  | again q _ ih => exact fun b f => let ⟨a, d, r⟩ := ih b f; ⟨a, d, .again q r⟩
  | rule _ ih => exact fun b f => let ⟨a, d, r⟩ := ih b f; ⟨a, d, .rule r⟩
  | «at» _ ih => exact fun b f => let ⟨a, d, r⟩ := ih b f; ⟨a, d, .at r⟩
  | load ho _ ih => exact fun b f => let ⟨a, d, r⟩ := ih b f; ⟨a, d, .load ho r⟩
  | update ho _ ih => exact fun b f => let ⟨a, d, r⟩ := ih (b.same rfl) f; ⟨a, d, .update ho r⟩
  | loadIfAlive _ ih => exact fun b f => let ⟨a, d, r⟩ := ih b f; ⟨a, d, .loadIfAlive r⟩
  | point _ ih => exact fun b f => let ⟨a, d, r⟩ := ih b f; ⟨a, d, .point r⟩
  | alloc _ ih => exact fun b f => let ⟨a, d, r⟩ := ih (b.same rfl) f; ⟨a, d, .alloc r⟩
  | fresh _ ih => exact fun b f => let ⟨a, d, r⟩ := ih (b.same rfl) f; ⟨a, d, .fresh r⟩
  | ask _ ih => exact fun b f => let ⟨a, d, r⟩ := ih b f; ⟨a, d, .ask r⟩
  | choose hn _ ih => exact fun b f => let ⟨a, d, r⟩ := ih (b.same rfl) f; ⟨a, d, .choose hn r⟩
  | os _ ih => exact fun b f => let ⟨a, d, r⟩ := ih (b.same rfl) f; ⟨a, d, .os r⟩
  | handled _ ih => exact fun b f => let ⟨a, d, r⟩ := ih b f; ⟨a, d, .handled r⟩
  | stack _ ih => exact fun b f => let ⟨a, d, r⟩ := ih b f; ⟨a, d, .stack r⟩
  | thread _ ih => exact fun b f => let ⟨a, d, r⟩ := ih b f; ⟨a, d, .thread r⟩
  | @genState j st _ _ _ _ _ _ hs _ ih =>
    intro b f
    obtain ⟨a, d, r⟩ := ih b f
    refine ⟨a, d, ?_⟩
    cases hj : J j with
    | true =>
      obtain ⟨x, hx, bl⟩ := b.yes j hj
      have e := un_yes (U := U) hj hx
      rw [hs] at hx
      cases hx
      refine .genState e ?_
      obtain ⟨_, _, _, _, _, _, rfl, eu⟩ := bl
      rw [eu]
      exact r
    | false => exact .genState ((un_no hj).trans hs) r
  | newGen _ ih =>
    intro b f
    obtain ⟨a, d, r⟩ := ih b.push f
    refine ⟨a, d, ?_⟩
    rw [un_push b.fresh] at r
    refine .newGen ?_
    rw [un_size]
    exact r
  | call _ _ ih1 ih2 =>
    intro b f
    obtain ⟨a, d, r⟩ := ih1 b nil
    obtain ⟨a2, d2, r2⟩ := ih2 a nil
    exact ⟨a2, d2, .call r r2⟩
  | callSusp _ ih =>
    intro b f
    obtain ⟨a, d, r⟩ := ih b nil
    refine ⟨a, ?_, .callSusp r⟩
    intro v g l k c p fs z
    cases z
    have d := d _ _ _ _ _ _ _ rfl
    intro g k l c p hm
    rcases List.mem_append.mp hm with hm | hm
    · exact d g k l c p hm
    · cases List.mem_singleton.mp hm
  | yield => exact fun b f => ⟨b, (fun v g l k c p fs z => by cases z; exact nil), .yield⟩
  | resumeFresh hs _ q _ ih1 ih2 =>
    intro b f
    have hj := b.ne hs fun _ _ _ _ _ _ z => nomatch z
    obtain ⟨a, d, r⟩ := ih1 (b.set hj fun _ _ _ _ _ _ z => nomatch z) nil
    obtain ⟨a2, d2, r2⟩ := ih2 (a.set hj d.state) nil
    rw [un_set hj] at r r2
    exact ⟨a2, d2, .resumeFresh ((un_no hj).trans hs) r q r2⟩
  | @resumeSuspended _ _ j _ _ _ _ _ _ _ _ _ _ _ _ _ _ hs h1 q _ ih1 ih2 =>
    intro b f
    have hj : J j = false := by
      cases hj : J j with
      | false => rfl
      | true =>
        obtain ⟨y, hy, _, _, _, _, _, _, rfl, _⟩ := b.yes j hj
        rw [hs] at hy
        cases hy
        exact absurd rfl (no_unsup h1 "")
    obtain ⟨a, d, r⟩ := ih1 (b.set hj fun _ _ _ _ _ _ z => nomatch z) (b.no _ _ _ _ _ _ _ hj hs)
    obtain ⟨a2, d2, r2⟩ := ih2 (a.set hj d.state) nil
    rw [un_set hj] at r r2
    exact ⟨a2, d2, .resumeSuspended ((un_no hj).trans hs) r q r2⟩
  | resumeJustStarted hs hv _ ih =>
    intro b f
    have hj := b.ne hs fun _ _ _ _ _ _ z => nomatch z
    obtain ⟨a, d, r⟩ := ih b f
    exact ⟨a, d, .resumeJustStarted ((un_no hj).trans hs) hv r⟩
  | resumeThrowFresh hs _ ih =>
    intro b f
    have hj := b.ne hs fun _ _ _ _ _ _ z => nomatch z
    obtain ⟨a, d, r⟩ := ih (b.set hj fun _ _ _ _ _ _ z => nomatch z) f
    rw [un_set hj] at r
    exact ⟨a, d, .resumeThrowFresh ((un_no hj).trans hs) r⟩
  | resumeRunning hs _ ih =>
    intro b f
    have hj := b.ne hs fun _ _ _ _ _ _ z => nomatch z
    obtain ⟨a, d, r⟩ := ih b f
    exact ⟨a, d, .resumeRunning ((un_no hj).trans hs) r⟩
  | resumeFinished hs _ ih =>
    intro b f
    have hj := b.ne hs fun _ _ _ _ _ _ z => nomatch z
    obtain ⟨a, d, r⟩ := ih b f
    exact ⟨a, d, .resumeFinished ((un_no hj).trans hs) r⟩
  | segRet _ _ ih1 ih2 =>
    intro b f
    obtain ⟨a, d, r⟩ := ih1 b nil
    obtain ⟨a2, d2, r2⟩ := ih2 a fun g k l c p hm => f g k l c p (List.mem_cons_of_mem _ hm)
    exact ⟨a2, d2, .segRet r r2⟩
  | segGen _ _ ih1 ih2 =>
    intro b f
    obtain ⟨a, d, r⟩ := ih1 b nil
    have hj := f _ _ _ _ _ List.mem_cons_self
    obtain ⟨a2, d2, r2⟩ := ih2 (a.set hj fun _ _ _ _ _ _ z => nomatch z) fun g k l c p hm => f g k l c p (List.mem_cons_of_mem _ hm)
    rw [un_set hj] at r2
    exact ⟨a2, d2, .segGen r r2⟩
  | segSuspOut h1 _ ih =>
    intro b f
    obtain ⟨a, d, r⟩ := ih b nil
    refine ⟨a, ?_, .segSuspOut h1 r⟩
    intro v g l k c p fs z
    cases z
    have d := d _ _ _ _ _ _ _ rfl
    intro g k l c p hm
    rcases List.mem_append.mp hm with hm | hm
    · exact d g k l c p hm
    · exact f g k l c p hm
  | segSuspGen h1 _ q _ ih1 ih2 =>
    intro b f
    obtain ⟨a, d, r⟩ := ih1 b nil
    have d := d _ _ _ _ _ _ _ rfl
    obtain ⟨m1, m2, l0, m3⟩ := split_mem h1
    have hj := f _ _ _ _ _ m3
    obtain ⟨a2, d2, r2⟩ := ih2 (a.set hj fun k l c p fs cl z => by
      cases z
      intro g k l c p hm
      rcases List.mem_append.mp hm with hm | hm
      · exact d g k l c p hm
      · exact f g k l c p (m1 _ hm)) fun g k l c p hm => f g k l c p (m2 _ hm)
    rw [un_set hj] at r2
    exact ⟨a2, d2, .segSuspGen h1 r q r2⟩
theorem returns_unB {M : Model} {Γ : PySem.Ctx} {p : Pos} {s s' : Shared} {r : Result} (h : Returns M Γ p s r s') (b : Bl J U s) : Bl J U s' ∧ Returns M Γ p (unB J U s) r (unB J U s') :=
  let ⟨a, _, q⟩ := runs_unB h b fun _ _ _ _ _ z => nomatch z
  ⟨a, q⟩
end
end L2
end
section
set_option maxRecDepth 100000
set_option maxHeartbeats 1000000
namespace L2
open PySem PySem.Spec PyProof.Rows GenW
open Sem (wp)
section
variable {J : Nat → Bool} {U : Nat → GenState} {M : Model} {Γ : PySem.Ctx}
theorem wakes_unB {p : Pos} {g : Nat} {r : Resume} {s s' : Shared} {res : GenResult} (h : Wakes M Γ p g r s res s') (b : Bl J U s) : Bl J U s' ∧ Wakes M Γ p g r (unB J U s) res (unB J U s') := by
  have nil : FrOk J [] := fun _ _ _ _ _ z => nomatch z
  unfold Wakes at h
  cases e : s.gens[g]? with
  | none => rw [e] at h; exact h.elim
  | some x =>
    rw [e] at h
    cases x with
    | fresh c =>
      have hj := b.ne e fun _ _ _ _ _ _ z => nomatch z
      have e' := (un_no (U := U) hj).trans e
      unfold Wakes
      rw [e']
      cases r with
      | send v =>
        cases v
        case none =>
          obtain ⟨e₁, s₁, hr, hq, h1, h2⟩ := h
          obtain ⟨a, d, r⟩ := runs_unB hr (b.set hj fun _ _ _ _ _ _ z => nomatch z) nil
          rw [un_set hj] at r
          subst h2
          exact ⟨a.set hj d.state, e₁, unB J U s₁, r, hq, h1, un_set hj⟩
        all_goals
          have h : _ ∧ _ := h
          obtain ⟨h1, h2⟩ := h
          subst h2
          refine ⟨b, ?_⟩
          exact And.intro h1 rfl
      | throw v =>
        obtain ⟨h1, h2⟩ := h
        subst h2
        exact ⟨b.set hj (fun _ _ _ _ _ _ z => nomatch z), h1, un_set hj⟩
    | suspended k l c p0 fs cl =>
      obtain ⟨e₁, s₁, hr, hq, h1, h2⟩ := h
      have hj : J g = false := by
        cases hj : J g with
        | false => rfl
        | true =>
          obtain ⟨y, hy, _, _, _, _, _, _, rfl, _⟩ := b.yes g hj
          rw [e] at hy
          cases hy
          exact absurd rfl (no_unsup hr "")
      have e' := (un_no (U := U) hj).trans e
      unfold Wakes
      rw [e']
      obtain ⟨a, d, r⟩ := runs_unB hr (b.set hj fun _ _ _ _ _ _ z => nomatch z) (b.no _ _ _ _ _ _ _ hj e)
      rw [un_set hj] at r
      subst h2
      exact ⟨a.set hj d.state, e₁, unB J U s₁, r, hq, h1, un_set hj⟩
    | running =>
      have hj := b.ne e fun _ _ _ _ _ _ z => nomatch z
      have e' := (un_no (U := U) hj).trans e
      unfold Wakes
      rw [e']
      obtain ⟨h1, h2⟩ := h
      subst h2
      exact ⟨b, h1, rfl⟩
    | finished =>
      have hj := b.ne e fun _ _ _ _ _ _ z => nomatch z
      have e' := (un_no (U := U) hj).trans e
      unfold Wakes
      rw [e']
      obtain ⟨h1, h2⟩ := h
      subst h2
      exact ⟨b, h1, rfl⟩
theorem wp_unB {α : Type} (t : Sem α) : ∀ (Q : α → Pos → Shared → Prop) (E : Value → Pos → Shared → Prop) (p : Pos) (s : Shared), Bl J U s → wp M Γ t Q E p s →
    wp M Γ t (fun a p' s' => ∃ s1, s' = unB J U s1 ∧ Bl J U s1 ∧ Q a p' s1) (fun e p' s' => ∃ s1, s' = unB J U s1 ∧ Bl J U s1 ∧ E e p' s1) p (unB J U s) := by
  induction t with
  | pure a => intro Q E p s b h; exact ⟨s, rfl, b, h⟩
  | raise e => intro Q E p s b h; exact ⟨s, rfl, b, h⟩
  | unsupported _ => intro Q E p s _ h; exact h
  | finish _ => intro Q E p s _ h; exact h
  | rule _ k ih => intro Q E p s b h; exact ih () Q E p s b h
  | «at» p' k ih => intro Q E p s b h; exact ih () Q E p' s b h
  | load a _ k ih => intro Q E p s b h; obtain ⟨o, ho, h⟩ := h; exact ⟨o, ho, ih o Q E p s b h⟩
  | update a _ f k ih => intro Q E p s b h; exact ⟨h.1, ih () Q E p { s with heap := s.heap.update a f } (b.same rfl) h.2⟩
  | loadIfAlive a k ih => intro Q E p s b h; exact ih _ Q E p s b h
  | point _ k ih => intro Q E p s b h; exact ih () Q E p s b h
  | register _ _ => intro Q E p s _ h; exact h
  | alloc o k ih => intro Q E p s b h; exact ih _ Q E p { s with heap := s.heap.push o } (b.same rfl) h
  | fresh k ih => intro Q E p s b h; exact ih _ Q E p { s with toks := s.toks + 1 } (b.same rfl) h
  | ask k ih => intro Q E p s b h; exact ih _ Q E p s b h
  | choose src m k ih => intro Q E p s b h; exact ⟨h.1, ih _ Q E p { s with drawn := s.drawn.bump src } (b.same rfl) h.2⟩
  | os q _ k ih => intro Q E p s b h; exact ih _ Q E p { s with os := (Os.step s.os q).1 } (b.same rfl) h
  | call c hd _ _ k ih =>
    intro Q E p s b h
    obtain ⟨r, s', hr, h⟩ := h
    obtain ⟨a, q⟩ := returns_unB hr b
    exact ⟨r, unB J U s', q, ih r Q E p s' a h⟩
  | handled own k ih => intro Q E p s b h; exact ih _ Q E p s b h
  | genState g k ih =>
    intro Q E p s b h
    obtain ⟨st, hs, h⟩ := h
    cases hj : J g with
    | true =>
      obtain ⟨x, hx, bl⟩ := b.yes g hj
      have e := un_yes (U := U) hj hx
      rw [hs] at hx
      cases hx
      refine ⟨_, e, ?_⟩
      obtain ⟨_, _, _, _, _, _, rfl, eu⟩ := bl
      rw [eu]
      exact ih _ Q E p s b h
    | false => exact ⟨st, (un_no hj).trans hs, ih _ Q E p s b h⟩
  | newGen c k ih =>
    intro Q E p s b h
    have r := ih _ Q E p _ b.push h
    rw [un_push b.fresh] at r
    show wp M Γ (k (unB J U s).gens.size) _ _ p _
    rw [un_size]
    exact r
  | resume g r _ k ih =>
    intro Q E p s b h
    obtain ⟨res, s', hw, h⟩ := h
    obtain ⟨a, q⟩ := wakes_unB hw b
    exact ⟨res, unB J U s', q, ih res Q E p s' a h⟩
  | yield _ _ _ _ => intro Q E p s _ h; exact h
  | stack k ih => intro Q E p s b h; exact ih _ Q E p s b h
  | fork _ _ => intro Q E p s _ h; exact h
  | thread k ih => intro Q E p s b h; exact ih _ Q E p s b h
  | await _ _ _ _ _ => intro Q E p s _ h; exact h
end
/-- a sleeper that cannot go on -/
def blindG : GenState → GenState
  | .suspended _ l c p fs cl => .suspended (fun _ => .unsupported "") l c p fs cl
  | x => x
def isSus : GenState → Bool
  | .suspended .. => true
  | _ => false
def blindS (s : Shared) : Shared := { s with gens := s.gens.map blindG }
theorem blindS_bare {s : Shared} (h : AllBare s.gens) : AllBare (blindS s).gens := by
  intro y hy
  obtain ⟨x, hx, rfl⟩ := Array.mem_map.mp hy
  have := h x hx
  cases x <;> exact this
/-- what slept sleeps on -/
def Slp (s s' : Shared) : Prop := ∀ (j : Nat) (x : GenState), s.gens[j]? = some x → isSus x = true → s'.gens[j]? = some x
theorem Slp.refl (s : Shared) : Slp s s := fun _ _ h _ => h
theorem Slp.trans {s s1 s2 : Shared} (a : Slp s s1) (b : Slp s1 s2) : Slp s s2 := fun j x h q => b j x (a j x h q) q
/-- stays true when the sleepers are put back -/
def Cld (p : Shared → Prop) : Prop := ∀ J U s, Bl J U s → p s → p (unB J U s)
theorem un_bare {J : Nat → Bool} {U : Nat → GenState} {s : Shared} (b : Bl J U s) (h : AllBare s.gens) : AllBare (unB J U s).gens := by
  intro y hy
  obtain ⟨i, hi⟩ := Array.getElem?_of_mem hy
  rw [un_get] at hi
  cases e : s.gens[i]? with
  | none => rw [e] at hi; cases hi
  | some z =>
    rw [e] at hi
    have hi : (if J i = true then U i else z) = y := Option.some.inj hi
    cases hJ : J i with
    | true =>
      rw [hJ, if_pos rfl] at hi
      obtain ⟨x, hx, bl⟩ := b.yes i hJ
      rw [← hi]
      have := h x (Array.mem_of_getElem? hx)
      obtain ⟨k, l, c, p, fs, cl, rfl, eu⟩ := bl
      rw [eu]
      exact this
    | false =>
      rw [hJ, if_neg Bool.false_ne_true] at hi
      rw [← hi]
      exact h z (Array.mem_of_getElem? e)
theorem Cld.wp {α : Type} {M : Model} {A : Around} {t : Sem α} {Q : α → Shared → Prop} {E : Value → Shared → Prop} (hQ : ∀ a, Cld (Q a)) (hE : ∀ e, Cld (E e)) : Cld fun s => wpAny M A t Q E s := by
  intro J U s b h Γ p hΓ
  refine Sem.wp_mono M Γ _ (fun a p' s' q => ?_) (fun e p' s' q => ?_) p _ (wp_unB t _ _ p s b (h Γ p hΓ))
  · obtain ⟨s1, e1, b1, q⟩ := q
    rw [e1]
    exact hQ a J U s1 b1 q
  · obtain ⟨s1, e1, b1, q⟩ := q
    rw [e1]
    exact hE e J U s1 b1 q
theorem cl_inv {X : Cx} {pins : List (Addr × Obj)} {σ : St} {H : Hp} : Cld fun s => Inv X pins σ H s := fun J U s b I => ⟨I.ok, I.os, un_bare b I.bare, I.base, I.loc, I.cell, I.free, I.freeC, I.pin, I.hok, I.len⟩
theorem cl_ex {α : Sort _} {p : α → Shared → Prop} (h : ∀ a, Cld (p a)) : Cld fun s => ∃ a, p a s := fun J U s b ⟨a, q⟩ => ⟨a, h a J U s b q⟩
theorem cl_and {p q : Shared → Prop} (h : Cld p) (k : Cld q) : Cld fun s => p s ∧ q s := fun J U s b ⟨x, y⟩ => ⟨h J U s b x, k J U s b y⟩
theorem cl_cx {P : Program} {w : World} {outer : List Env} {H : Hp} {s0 : Shared} {E : XK} {u : Value} : Cld fun s => CX P w outer H s0 E u s := fun J U s b ⟨a, B, H', cls, d, e, fl, ok, ub, na, os, ag, q⟩ =>
  ⟨a, B, H', cls, d, e, fl, ok, ub, na, os, un_bare b ag, q⟩
theorem cl_sp {X : Cx} {pins : List (Addr × Obj)} {D : Ends} {f : Flow} : Cld (SP X pins D f) := by
  cases f with
  | next => exact cl_ex fun σ => cl_ex fun H => cl_and cl_inv fun J U s b h => h
  | brk => exact cl_ex fun σ => cl_ex fun H => cl_and cl_inv fun J U s b h => h
  | cont => exact cl_ex fun σ => cl_ex fun H => cl_and cl_inv fun J U s b h => h
  | ret u => exact cl_ex fun v => cl_ex fun σ => cl_ex fun H => cl_and cl_inv fun J U s b h => h
/-- an exception that leaves the code leaves the sleepers asleep -/
def XG (X : Cx) : Prop := ∀ e, Cld (X.xe e)
theorem xg_cx {P : Program} {w : World} {K : PySem.W.Frag} {mg : Str → Option Value} {base : Heap} {N : List Str} {qual : Str} {scope : Scope} {f : Addr} {cd : Value} {A : Around} {outer : List Env} {s : Shared} {H : Hp} {E : XK} :
    XG (cxOf (CX P w) P w K mg base N qual scope f cd A outer s H E) := fun e => Cld.wp (fun _ => cl_cx) fun _ => cl_cx
theorem wpAny_asleep {α : Type} {M : Model} {A : Around} {t : Sem α} {Q : α → Shared → Prop} {E : Value → Shared → Prop} {s : Shared} (hE : ∀ e, Cld (E e)) (hQ : ∀ a, Cld (Q a)) (h : wpAny M A t Q E (blindS s)) :
    wpAny M A t (fun a s' => Slp s s' ∧ Q a s') E s := by
  intro Γ p hΓ
  let J : Nat → Bool := fun j => match s.gens[j]? with | some x => isSus x | none => false
  let U : Nat → GenState := fun j => (s.gens[j]?).getD .finished
  have un : unB J U (blindS s) = s := by
    obtain ⟨hp, G, d, tk, os⟩ := s
    unfold unB blindS
    simp only [Shared.mk.injEq, true_and, and_true]
    apply Array.ext_getElem?
    intro i
    rw [Array.getElem?_mapIdx, Array.getElem?_map]
    cases e : G[i]? with
    | none => rfl
    | some x =>
      show some (if J i = true then U i else blindG x) = some x
      have hJ : J i = isSus x := by show (match G[i]? with | some x => isSus x | none => false) = _; rw [e]
      have hU : U i = x := by show (G[i]?).getD .finished = _; rw [e]; rfl
      rw [hJ, hU]
      cases x <;> rfl
  have b : Bl J U (blindS s) := by
    refine ⟨fun j hj => ?_, fun j k l c p fs cl hj e => ?_⟩
    · have hj : (match s.gens[j]? with | some x => isSus x | none => false) = true := hj
      cases e : s.gens[j]? with
      | none => rw [e] at hj; cases hj
      | some x =>
        rw [e] at hj
        cases x with
        | suspended k l c p fs cl =>
          refine ⟨.suspended (fun _ => .unsupported "") l c p fs cl, ?_, k, l, c, p, fs, cl, rfl, ?_⟩
          · show (s.gens.map blindG)[j]? = _
            rw [Array.getElem?_map, e]; rfl
          · show (s.gens[j]?).getD .finished = _
            rw [e]; rfl
        | _ => cases hj
    · have hj : (match s.gens[j]? with | some x => isSus x | none => false) = false := hj
      have e : (s.gens.map blindG)[j]? = _ := e
      rw [Array.getElem?_map] at e
      cases q : s.gens[j]? with
      | none => rw [q] at e; cases e
      | some x =>
        rw [q] at hj e
        cases x <;> first | (cases hj; done) | (cases e; done)
  have w := wp_unB t _ _ p (blindS s) b (h Γ p hΓ)
  rw [un] at w
  refine Sem.wp_mono M Γ _ (fun a p' s' q => ?_) (fun e p' s' q => ?_) p s w
  · obtain ⟨s1, e1, b1, q⟩ := q
    subst e1
    refine ⟨fun j x hx hs => ?_, hQ a J U s1 b1 q⟩
    have hJ : J j = true := by show (match s.gens[j]? with | some x => isSus x | none => false) = true; rw [hx]; exact hs
    have hU : U j = x := by show (s.gens[j]?).getD .finished = _; rw [hx]; rfl
    obtain ⟨y, hy, _⟩ := b1.yes j hJ
    rw [un_yes hJ hy, hU]
  · obtain ⟨s1, e1, b1, q⟩ := q
    subst e1
    exact hE e J U s1 b1 q
end L2
end
section
set_option maxRecDepth 100000
set_option maxHeartbeats 2000000
namespace Lad
open PySem L2 PySem.Spec PyProof.Rows
abbrev TSu := Addr → Value → Option Addr → TS
/-- the ends with n gone -/
def Ends.less (i : Nat) (D : Ends) : Ends := ⟨fun τ G => D.nx (τ.set i none) G, D.rt, fun τ G => D.bk (τ.set i none) G, fun τ G => D.ct (τ.set i none) G⟩
def wAsM (K : PySem.W.Frag) (i : Nat) (Wo : WX) (D : Ends) : List (Value × TSu) → WX
  | [] => Wo
  | q :: r => fun cl dd τ G => ∃ y, PySem.W.exmOne K cl q.1 = some y ∧ (y = true → ∀ b, G b = none → q.2 b cl dd (Ends.less i D) (τ.set i (some (.ref b))) G) ∧ (y = false → wAsM K i Wo D r cl dd τ G)
inductive Clauses (X : Cx) (n : Str) : List ExceptHandler → List (Value × TSu) → Prop
  | nil : Clauses X n [] []
  | cons {x : Str} {cv : Value} {ts : TSu} {s0 : Stmt} {ss : List Stmt} {p1 p2 : Pos} {hl : List ExceptHandler} {l : List (Value × TSu)} (nc : Names X x cv)
      (su : ∀ (b : Addr) (ob : Obj) (cl : Value) (dd : Option Addr) (pn : List (Addr × Obj)), Zc cl dd ob → (∃ vs, ob.data = .fields vs) → PSs (X.suite b ((b, ob) :: pn)) (s0 :: ss) (ts b cl dd)) (r : Clauses X n hl l) :
      Clauses X n (.ExceptHandler (some (.Name x p1)) (some n) (s0 :: ss) p2 :: hl) ((cv, ts) :: l)
section
variable {X : Cx} {n : Str} {i : Nat} {body : List Stmt} {c0 : ExceptHandler} {cs : List ExceptHandler} {l : List (Value × TSu)} {pos : Pos} {tb : WX → TS} {Wo : WX}
theorem ps_try_asMX (hst : X.stack = X.env :: X.outer) (hfm : X.env.frame = some X.env.locals) (nd : X.N.Nodup) (ni : X.N[i]? = some n) (lc : X.env.kindOf n = some .local) (tk : Takes X Wo)
    (bd : ∀ (W : WX) (pn : List (Addr × Obj)) (xe : Value → Shared → Prop), Takes (X.tr pn xe) W → PassesOwn (model X.prog X.w) X.A X.env xe → (XG X → XG (X.tr pn xe)) → PSs (X.tr pn xe) body (tb W))
    (hcl : Clauses X n (c0 :: cs) l) : PS X (.Try body (c0 :: cs) [] [] pos) (fun D τ G => tb (wAsM X.K i Wo D l) D τ G) := by
  refine ⟨fun ps s τ G D Iv w0 => ?_⟩
  have okX := Iv.ok
  have fr : X.A.frames = some (X.env :: X.outer) := by rw [okX.frames, hst]
  have lcn : Loc X.env.scope n := Or.inl lc
  apply wpAny_Try_except
  refine wpAny_mono ((bd (wAsM X.K i Wo D l) (X.pn ++ ps) (fun e t1 => wpAny (model X.prog X.w) X.A (noteFrame e X.env) (fun _ t2 => wpAny (model X.prog X.w) X.A (setFlight e none)
    (fun _ t3 => wpAny (model X.prog X.w) X.A (handleBy e X.env (c0 :: cs)) (SP X ps D) X.xe t3) X.xe t2) X.xe t1) ?ct0 PassesOwn.looking fun xg e => Cld.wp (fun _ => Cld.wp (fun _ => Cld.wp (fun _ => cl_sp) xg) xg) xg).run [] s τ G D (Iv.toTry _) w0) ?af0 (fun _ _ q => q)
  case af0 =>
    intro f t1 q
    cases f with
    | next => exact let ⟨τ', G', J, q⟩ := q; wpAny_execs_nil ⟨τ', G', J.ofTry okX, q⟩
    | brk => exact let ⟨τ', G', J, q⟩ := q; ⟨τ', G', J.ofTry okX, q⟩
    | cont => exact let ⟨τ', G', J, q⟩ := q; ⟨τ', G', J.ofTry okX, q⟩
    | ret u => exact let ⟨v, τ', G', J, r, q⟩ := q; ⟨v, τ', G', J.ofTry okX, r, q⟩
  case ct0 =>
    intro u t ⟨b, B, sI, ps', τ', G', cl, dd, eu, J', nb, up, sky, nG, os, ag, w⟩
    subst eu
    have J : Inv X ps τ' G' sI := J'.ofTry okX
    have sky2 : Sky B (X.env :: X.outer) b (Zc cl dd) X.env.locals t.heap := by rw [← hst]; exact sky
    refine Sky.land (Zc.steady) fr hfm sky2 fun k3 f3 up3 => ?_
    have J3 : Inv X ps τ' G' { t with heap := k3 } := J.landed nb f3.1 (up.trans up3) os ag
    obtain ⟨o3, v3, at3, z3, d3⟩ := f3.there
    have off : b ∉ frs (X.env :: X.outer) := by
      intro hm
      obtain ⟨_, o', e', nf⟩ := f3.2.2.1.mem hm
      rw [at3] at e'
      cases e'
      exact nf _ d3
    have offL : b ≠ X.env.locals := by
      intro z
      exact off (List.mem_filterMap.mpr ⟨X.env, .head _, by rw [hfm, z]⟩)
    have offF : b ∉ X.fs := by
      intro hm
      obtain ⟨e, he, q⟩ := List.mem_filterMap.mp hm
      exact off (List.mem_filterMap.mpr ⟨e, .tail _ he, q⟩)
    have S3 := J3.suite at3 d3 nG offL offF
    have each : ∀ {hl : List ExceptHandler} {l' : List (Value × TSu)}, Clauses X n hl l' → wAsM X.K i Wo D l' cl dd τ' G' → wpAny (model X.prog X.w) X.A (handleBy (.ref b) X.env hl) (SP X ps D) X.xe { t with heap := k3 } := by
      intro hl l' q
      induction q with
      | nil =>
        intro w
        apply wpAny_handleBy_nil
        obtain ⟨_, _, _, oe, vs, Tb, oT, ts', he, hz, hd, h1, hr⟩ := id f3
        unfold PySem.passOn
        apply wpAny_bind
        refine wpAny_field he hd h1 ?_
        have nn : ¬ ((Value.ref Tb == Value.none) = true) := by simp
        rw [if_neg nn]
        have last : wpAny (model X.prog X.w) X.A (setFlight (.ref b) X.env.frame) (fun _ t4 => wpAny (model X.prog X.w) X.A (throw (.ref b) : Sem Flow) (SP X ps D) X.xe t4) X.xe { t with heap := k3 } := by
          rw [hfm]
          refine HandSPX.setFlight_upZ f3 fun k4 hk4 up4 => wpAny_throw (tk _ _ ?_)
          refine ⟨b, B, sI, ps, τ', G', cl, dd, rfl, J, nb, (up.trans up3).trans up4, Or.inr (Or.inr ?_), nG, os, ag, w⟩
          rw [hst]; exact hk4
        first
          | exact wpAny_bind (wpAny_pure (wpAny_bind last))
          | exact wpAny_bind last
      | @cons x cv ts s0 ss p1 p2 hl2 l2 nc su r ih =>
        intro ⟨y, hy, yes, no⟩
        refine wpAny_handleBy_cons (codeAny_handlers_test ?_) (fun q => nomatch q)
        have LT : PySem.W.Looks (model X.prog X.w) k3 (typeOf (.ref b)) cl := fun _ _ _ _ k q => wpAny_typeOf_ref (k _ _ at3) (by rw [z3.1]; exact q)
        have LM := PySem.W.exm_one (M := model X.prog X.w) J3.kIn LT hy
        have tst : ∀ {Q : Value → Shared → Prop} {E : Value → Shared → Prop}, Q cv { t with heap := k3 } → wpAny (model X.prog X.w) (X.A.mark (some (.ref b))) (eval (.Name x p1) X.env) Q E { t with heap := k3 } := by
          intro Q E q
          obtain ⟨g1, g2, g3⟩ := nc
          rcases g3 with g3 | ⟨g3, g4, g5⟩
          · exact ld_glob (X := X.suite b ((b, o3) :: (X.pn ++ ps))) S3 g1 g3 q g2
          · exact ld_blt (X := X.suite b ((b, o3) :: (X.pn ++ ps))) S3 g1 g3 g4 q g5 g2
        refine tst (LM.here ?_)
        cases y with
        | false => exact ih (no rfl)
        | true =>
          apply codeAny_handlers_suite_as
          refine HandSPX.lands_againZ f3 fun k4 f4 up4 => ?_
          have J4 : Inv X ps τ' G' { t with heap := k4 } := J.landed nb f4.1 ((up.trans up3).trans up4) os ag
          obtain ⟨o4, v4, at4, z4, d4⟩ := f4.there
          have S4 := J4.suite at4 d4 nG offL offF
          refine store_ok (X := X.suite b ((b, o4) :: (X.pn ++ ps))) (v := .ref b) S4 nd ni lcn rfl (fun t5 S5 => ?_) (Or.inr lc)
          refine wpAny_mono ((su b o4 cl dd (X.pn ++ ps) z4 ⟨_, d4⟩).run [] t5 _ G' _ S5 (yes rfl b nG)) (fun f t6 q => ?_) (fun _ _ z => z.elim)
          have fine : ∀ {τ6 : L2.St} {G6 : Hp} {Q : Shared → Prop}, Inv (X.suite b ((b, o4) :: (X.pn ++ ps))) [] τ6 G6 t6 → (∀ t7, Inv X ps (τ6.set i none) G6 t7 → Q t7) →
              wpAny (model X.prog X.w) X.A (do bindName X.env n .none; unbindBehindTheSuite X.env n p2) (fun _ t7 => Q t7) X.xe t6 := fun S6 k => gone_ok (S6.unsuite okX) nd ni lc k
          cases f with
          | next => obtain ⟨τ6, G6, S6, q6⟩ := q; exact fine S6 fun t7 J7 => ⟨_, _, J7, q6⟩
          | brk => obtain ⟨τ6, G6, S6, q6⟩ := q; exact fine S6 fun t7 J7 => ⟨_, _, J7, q6⟩
          | cont => obtain ⟨τ6, G6, S6, q6⟩ := q; exact fine S6 fun t7 J7 => ⟨_, _, J7, q6⟩
          | ret u => obtain ⟨v6, τ6, G6, S6, r6, q6⟩ := q; exact fine S6 fun t7 J7 => ⟨_, _, _, J7, r6, q6⟩
    exact each hcl w
end
def sTryM (cl : List ((Nat → Option Bool) × (En → Hea → SRes))) (i : Nat) (fb : En → Hea → SRes) : En → Hea → SRes := fun e h => match fb e h with
  | .exc c d e1 h1 => tryMs cl i c d e1 h1
  | r => r
where tryMs : List ((Nat → Option Bool) × (En → Hea → SRes)) → Nat → Nat → Val → En → Hea → SRes
  | [], _, c, d, e1, h1 => .exc c d e1 h1
  | q :: r, i, c, d, e1, h1 => match q.1 c with
    | some true => suiteEnd i h1 (q.2 (e1.set i (some (.exn c d))) h1)
    | some false => tryMs r i c d e1 h1
    | none => .stuck
/-- clauses with their suites derived -/
inductive SCl (T : Tb) (X : Cx) (n : Str) : List ExceptHandler → List ((Nat → Option Bool) × (En → Hea → SRes)) → List Value → Prop
  | nil : SCl T X n [] [] []
  | cons {x : Str} {cv : Value} {sub : Nat → Option Bool} {fs : En → Hea → SRes} {s0 : Stmt} {ss : List Stmt} {p1 p2 : Pos} {hl : List ExceptHandler} {cl : List ((Nat → Option Bool) × (En → Hea → SRes))} {vs : List Value} (nc : Names X x cv)
      (hsub : ∀ c b, sub c = some b → PySem.W.exmOne X.K (.ref (T.ca c)) cv = some b)
      (su : ∀ (a : Addr) (oe : Obj) (c : Nat) (dx : Addr) (pn : List (Addr × Obj)), sub c = some true → Zc (.ref (T.ca c)) (some dx) oe → (∃ vs, oe.data = .fields vs) → SSs (T.at a c dx) (X.suite a ((a, oe) :: pn)) W0 (s0 :: ss) fs)
      (r : SCl T X n hl cl vs) : SCl T X n (.ExceptHandler (some (.Name x p1)) (some n) (s0 :: ss) p2 :: hl) ((sub, fs) :: cl) (cv :: vs)
section
variable {T : Tb} {X : Cx} {W : WX} {n : Str} {i : Nat} {body : List Stmt} {c0 : ExceptHandler} {cs : List ExceptHandler} {pos : Pos} {fb : En → Hea → SRes} {cl : List ((Nat → Option Bool) × (En → Hea → SRes))} {vs : List Value}
def suOf (T : Tb) (X : Cx) (q : (Nat → Option Bool) × (En → Hea → SRes)) : TSu := fun a cls d D σ H => ∃ c dx, q.1 c = some true ∧ cls = .ref (T.ca c) ∧ d = some dx ∧ tS (sy (T.at a c dx) X) W0 q.2 D σ H
theorem SCl.cls {hl : List ExceptHandler} (q : SCl T X n hl cl vs) : Clauses X n hl (vs.zip (cl.map (suOf T X))) := by
  induction q with
  | nil => exact .nil
  | cons nc hsub su r ih =>
    refine .cons nc (fun a oe cls d pn hz hff => ⟨fun pins s σ H D I q => ?_⟩) ih
    obtain ⟨c, dx, hsc, rfl, rfl, q⟩ := q
    exact (su a oe c dx pn hsc hz hff).run pins s σ H D I q
theorem SCl.ok {hl : List ExceptHandler} (hx : T.ex = none) (q : SCl T X n hl cl vs) {D : Ends} {c : Nat} {d : Val} {e1 : En} {h1 : Hea} {ρ : Own} {H : Hp} {v : V} {σ1 : L2.St} {dx : Addr} (R1 : Rel (sy T X) ρ h1 H) (r1 : Rep (sy T X) ρ H d v) (E1 : ER (sy T X) ρ H e1 σ1) (hdx : H dx = some (.xd [(T.fld c, v)]))
    (a : AftS (sy T X) ρ H (sTryM.tryMs cl i c d e1 h1) D W) : wAsM X.K i W D (vs.zip (cl.map (suOf T X))) (.ref (T.ca c)) (some dx) σ1 H := by
  induction q with
  | nil => exact a ρ v σ1 H dx .rfl R1 r1 E1 hdx
  | @cons x cv sub fs s0 ss p1 p2 hl cl vs nc hsub su r ih =>
    unfold sTryM.tryMs at a
    dsimp only at a
    cases hsb : sub c with
    | none => rw [hsb] at a; exact a.elim
    | some b =>
      rw [hsb] at a
      refine ⟨b, hsub c b hsb, fun hb1 ax hax => ?_, fun hb1 => ?_⟩
      · subst hb1
        refine ⟨c, dx, hsb, rfl, rfl, ρ, _, h1, R1.like like_at (R1.no hx), ?_, ends_ok (W := W) hx R1 a⟩
        exact ER.set (S := sy (T.at ax c dx) X) (Rep.exn (S := sy (T.at ax c dx) X) rfl hdx (r1.like like_at (r1.no hx))) i (E1.like like_at (E1.no hx))
      · subst hb1
        exact ih a
theorem st_tryMX (hxg : XG X) (hx : T.ex = none) (hs : X.stack = X.env :: X.outer) (hf : X.env.frame = some X.env.locals) (hN : X.N.Nodup) (hi : X.N[i]? = some n) (hln : X.env.kindOf n = some .local) (tk : Takes X W)
    (hb : ∀ (W : WX) (pn : List (Addr × Obj)) (xe : Value → Shared → Prop), Takes (X.tr pn xe) W → PassesOwn (model X.prog X.w) X.A X.env xe → XG (X.tr pn xe) → SSs T (X.tr pn xe) W body fb)
    (hc : SCl T X n (c0 :: cs) cl vs) : SSt T X W (.Try body (c0 :: cs) [] [] pos) (sTryM cl i fb) := by
  refine PS.imp (ps_try_asMX (tb := fun W' => tS (sy T X) W' fb) hs hf hN hi hln tk (fun W' pn xe tk' po xg => hb W' pn xe tk' po (xg hxg)) hc.cls) fun D σ H q => ?_
  obtain ⟨ρ, e, h, R, E, a⟩ := q
  refine ⟨ρ, e, h, R, E, ?_⟩
  unfold sTryM at a
  revert a
  cases fb e h with
  | nx e1 h1 => exact id
  | rt v h1 => exact id
  | bk e1 h1 => exact id
  | ct e1 h1 => exact id
  | stuck => exact id
  | exc c d e1 h1 => exact fun a ρ1 v σ1 H1 dx s R1 r1 E1 hdx => hc.ok hx R1 r1 E1 hdx (AftS.later a s)
end
end Lad
end
section
set_option maxRecDepth 100000
set_option maxHeartbeats 2000000
namespace Lad
open PySem L2
def rgL (a b : Int) : List Val := (List.range (b - a).toNat).map fun i => Val.int (a + (i : Nat))
def rgOkB (a b : Int) : Bool := decide (0 ≤ a ∧ b ≤ 16777216 ∧ a ≤ 16777216 ∧ 0 ≤ b)
def lRg1 (f : En → Hea → Res Val) : En → Hea → Res (List Val) := fun e h => (f e h).bind fun d h1 => match d with
  | .int n => if rgOkB 0 n = true then .ok (rgL 0 n) h1 else .stuck
  | _ => .stuck
end Lad
end
section
set_option maxRecDepth 100000
set_option maxHeartbeats 0
namespace K41
open PySem L2 Lad
def top (i : Nat) : Stmt := PySem.Challenge.pw_liftedladders_k41_whole_plays_of_duels.main.body.getD i (.Pass ⟨0, 0, 0, 0⟩)
def fldN : Nat → Str
  | 0 => ""
  | 1 => ""
  | 2 => "part"
  | 3 => ""
  | 4 => "value"
  | 5 => ""
  | 6 => ""
  | 7 => ""
  | 8 => ""
  | 9 => ""
  | 10 => ""
  | 11 => ""
  | 12 => ""
  | 13 => ""
  | 14 => ""
  | 15 => ""
  | 16 => ""
  | 17 => ""
  | 18 => ""
  | 19 => ""
  | 20 => ""
  | 21 => ""
  | 22 => ""
  | 23 => ""
  | 24 => ""
  | 25 => ""
  | 26 => ""
  | _ => ""
def caK (K : PySem.W.Frag) : Nat → Addr
  | 0 => He.ga K "LadderError"
  | 2 => He.ga K "BadBook"
  | 4 => He.ga K "BadGame"
  | 34 => He.ga K "Duel"
  | _ => 0
def nms : List Str := (["low", "high", "table", "fresh", "times", "bonus", "places", "last_phase", "parts", "start", "moved", "game", "changed", "own_places", "own_moves", "moves", "own_counts", "at", "total", "can"] : List Str) ++ (["after", "mean", "own_rows", "rows", "play", "check_first", "step", "span", "far", "%0", "%1", "%2", "%3", "%4", "%5", "%6", "%7", "%8", "%9", "%10"] : List Str) ++ (["%11", "%12", "%13", "%14", "%15", "%16", "%17", "%18", "%19", "%20", "%21", "%22", "%23", "%24", "%25", "%26", "%27", "%28", "%29", "%30"] : List Str) ++ (["%31", "%32", "%33", "%34", "%35", "%36", "%37", "%38", "%39", "%40", "%41", "%42", "%43", "%44", "%45", "%46", "%47", "%48", "%49", "%50"] : List Str) ++ (["%51", "%52", "%53", "%54", "%55", "%56", "%57", "%58", "%59", "%60", "%61", "%62", "%63", "%64", "%65", "%66", "%67", "%68", "%69", "%70"] : List Str)
def nmN (i : Nat) : Str := nms.getD i ""
abbrev TT (K : PySem.W.Frag) : Tb := ⟨caK K, nmN, fldN, none⟩
def sub_BadGame : Nat → Option Bool
  | 2 => some false
  | 4 => some true
  | _ => none
def okE : Nat → Bool
  | 2 => true
  | 4 => true
  | _ => false
def k_MOST_RATING : Val := (.int 23)
def k_MOST_ROWS : Val := (.int 6)
def k_RESULTS : Val := (.tup [(.str "upper"), (.str "draw"), (.str "lower")])
abbrev e_BadBook : ErD := ⟨"BadBook", inClass (top 3) 0, "BadBook.__init__", "part"⟩
abbrev e_BadGame : ErD := ⟨"BadGame", inClass (top 4) 0, "BadGame.__init__", "value"⟩
abbrev P0 : Program := PySem.Challenge.pw_liftedladders_k41_whole_plays_of_duels
abbrev d_is_whole : He.DefD := ⟨("is_whole", none), "is_whole", "is_whole", defArgs (top 7), defBody (top 7), defScope (top 7), [], []⟩
abbrev d_row_at : He.DefD := ⟨("row_at", none), "row_at", "row_at", defArgs (top 15), defBody (top 15), defScope (top 15), [], []⟩
abbrev d_is_result : He.DefD := ⟨("is_result", none), "is_result", "is_result", defArgs (top 16), defBody (top 16), defScope (top 16), [], []⟩
abbrev d__law_pool : He.DefD := ⟨("_law_pool", none), "_law_pool", "_law_pool", defArgs (top 20), defBody (top 20), defScope (top 20), [], []⟩
abbrev d__law_draw : He.DefD := ⟨("_law_draw", none), "_law_draw", "_law_draw", defArgs (top 21), defBody (top 21), defScope (top 21), [], []⟩
abbrev d__law_row_at : He.DefD := ⟨("_law_row_at", none), "_law_row_at", "_law_row_at", defArgs (top 24), defBody (top 24), defScope (top 24), [], []⟩
abbrev d__law_emptied : He.DefD := ⟨("_law_emptied", none), "_law_emptied", "_law_emptied", defArgs (top 28), defBody (top 28), defScope (top 28), [], []⟩
abbrev d_is_integer : He.DefD := ⟨("is_integer", none), "is_integer", "is_integer", defArgs (top 6), defBody (top 6), defScope (top 6), [], []⟩
abbrev d__law_pick : He.DefD := ⟨("_law_pick", none), "_law_pick", "_law_pick", defArgs (top 22), defBody (top 22), defScope (top 22), [], []⟩
abbrev d__law_step : He.DefD := ⟨("_law_step", none), "_law_step", "_law_step", defArgs (top 26), defBody (top 26), defScope (top 26), [], []⟩
abbrev d_Duel___getitem__ : He.DefD := ⟨("Duel", some "__getitem__"), "__getitem__", "Duel.__getitem__", defArgs (inClass (top 18) 3), defBody (inClass (top 18) 3), defScope (inClass (top 18) 3), [], []⟩
abbrev d_is_entry : He.DefD := ⟨("is_entry", none), "is_entry", "is_entry", defArgs (top 12), defBody (top 12), defScope (top 12), [], []⟩
abbrev d__law_entry : He.DefD := ⟨("_law_entry", none), "_law_entry", "_law_entry", defArgs (top 23), defBody (top 23), defScope (top 23), [], []⟩
abbrev d_Duel_check_first : He.DefD := ⟨("Duel", some "check_first"), "check_first", "Duel.check_first", defArgs (inClass (top 18) 5), defBody (inClass (top 18) 5), defScope (inClass (top 18) 5), [], []⟩
abbrev d_is_table_row : He.DefD := ⟨("is_table_row", none), "is_table_row", "is_table_row", defArgs (top 13), defBody (top 13), defScope (top 13), [], []⟩
abbrev d__law_duel_rows : He.DefD := ⟨("_law_duel_rows", none), "_law_duel_rows", "_law_duel_rows", defArgs (top 25), defBody (top 25), defScope (top 25), [], []⟩
abbrev d_Duel_step : He.DefD := ⟨("Duel", some "step"), "step", "Duel.step", defArgs (inClass (top 18) 4), defBody (inClass (top 18) 4), defScope (inClass (top 18) 4), [], []⟩
abbrev d_is_table : He.DefD := ⟨("is_table", none), "is_table", "is_table", defArgs (top 14), defBody (top 14), defScope (top 14), [], []⟩
abbrev d_Duel_play : He.DefD := ⟨("Duel", some "play"), "play", "Duel.play", defArgs (inClass (top 18) 7), defBody (inClass (top 18) 7), defScope (inClass (top 18) 7), [], []⟩
abbrev d_Duel___init__ : He.DefD := ⟨("Duel", some "__init__"), "__init__", "Duel.__init__", defArgs (inClass (top 18) 0), defBody (inClass (top 18) 0), defScope (inClass (top 18) 0), [], []⟩
abbrev d__law_heard : He.DefD := ⟨("_law_heard", none), "_law_heard", "_law_heard", defArgs (top 27), defBody (top 27), defScope (top 27), [], []⟩
abbrev d__law_kept : He.DefD := ⟨("_law_kept", none), "_law_kept", "_law_kept", defArgs (top 29), defBody (top 29), defScope (top 29), [], []⟩
abbrev d_law : He.DefD := ⟨("law", none), "law", "law", defArgs (top 30), defBody (top 30), defScope (top 30), [], []⟩
def fn : List He.DefD := [d_is_whole, d_row_at, d_is_result, d__law_pool, d__law_draw, d__law_row_at, d__law_emptied, d_is_integer, d__law_pick, d__law_step, d_Duel___getitem__, d_is_entry, d__law_entry, d_Duel_check_first, d_is_table_row, d__law_duel_rows, d_Duel_step, d_is_table, d_Duel_play, d_Duel___init__, d__law_heard, d__law_kept, d_law]
def er : List ErD := [e_BadBook, e_BadGame]
def fa : List Chk := [(He.Fa.free "abs").ok,
  (He.Fa.free "all").ok,
  (He.Fa.free "bool").ok,
  (He.Fa.free "enumerate").ok,
  (He.Fa.free "int").ok,
  (He.Fa.free "isinstance").ok,
  (He.Fa.free "len").ok,
  (He.Fa.free "list").ok,
  (He.Fa.free "max").ok,
  (He.Fa.free "range").ok,
  (He.Fa.free "repr").ok,
  (He.Fa.free "str").ok,
  (He.Fa.free "tuple").ok,
  (He.Fa.free "zip").ok,
  (He.Fa.glo "is_whole").ok,
  (He.Fa.glo "row_at").ok,
  (He.Fa.glo "is_result").ok,
  (He.Fa.glo "_law_pool").ok,
  (He.Fa.glo "_law_draw").ok,
  (He.Fa.glo "_law_row_at").ok,
  (He.Fa.glo "_law_emptied").ok,
  (He.Fa.glo "is_integer").ok,
  (He.Fa.glo "_law_pick").ok,
  (He.Fa.glo "_law_step").ok,
  (He.Fa.glo "is_entry").ok,
  (He.Fa.glo "_law_entry").ok,
  (He.Fa.glo "is_table_row").ok,
  (He.Fa.glo "_law_duel_rows").ok,
  (He.Fa.glo "is_table").ok,
  (He.Fa.glo "_law_heard").ok,
  (He.Fa.glo "_law_kept").ok,
  (He.Fa.glo "law").ok,
  noList,
  (conB "MOST_RATING" k_MOST_RATING),
  (conB "MOST_ROWS" k_MOST_ROWS),
  (conB "RESULTS" k_RESULTS),
  (tupDB "RESULTS"),
  (He.Fa.glo "LadderError").ok,
  (He.Fa.glo "BadBook").ok,
  (He.Fa.glo "BadGame").ok,
  (He.Fa.glo "Duel").ok,
  (fun K => erB P0.main.file "ValueError" "ValueError.__new__" "ValueError.__init__" He.veBase K e_BadBook),
  (fun K => excB K (caK K 2)),
  (fun K => eqO (PySem.W.findIn K (.ref (caK K 2)) "part") (some none)),
  (fun K => erB P0.main.file "ValueError" "ValueError.__new__" "ValueError.__init__" He.veBase K e_BadGame),
  (fun K => excB K (caK K 4)),
  (fun K => eqO (PySem.W.findIn K (.ref (caK K 4)) "value") (some none)),
  (fun K => decide (PySem.W.exmOne K (.ref (caK K 2)) (.ref (caK K 4)) = some false)),
  (fun K => decide (PySem.W.exmOne K (.ref (caK K 4)) (.ref (caK K 4)) = some true)),
  (fun K => decide (PySem.W.subIn K (.ref (caK K 2)) (.type "StopIteration") = some false)),
  (fun K => decide (PySem.W.subIn K (.ref (caK K 4)) (.type "StopIteration") = some false)),
  (fun K => ownB K (caK K 34)),
  (fun K => eqO (PySem.W.findIn K (.ref (caK K 34)) "far") (some none)),
  (fun K => eqO (PySem.W.findIn K (.ref (caK K 34)) "span") (some none)),
  (fun K => eqO (PySem.W.findIn K (.ref (caK K 34)) "table") (some none)),
  (fun K => (He.Fa.meth "Duel" "check_first").ok K),
  (fun K => (He.Fa.meth "Duel" "play").ok K),
  (fun K => (He.Fa.meth "Duel" "step").ok K),
  (fun K => (He.Fa.mkr "Duel").ok K),
  (fun K => dunB "__getitem__" K (caK K 34))]
def ads : List Addr := [3, 2, 31, 53, 74, 83, 90, 91, 96, 101, 106, 111, 118, 189, 200, 207, 214, 221, 228, 235, 242, 249, 256, 263, 268, 30, 52, 73, 82, 89, 95, 100, 105, 110, 117, 188, 199, 206, 213, 220, 227, 234, 241, 248, 255, 262, 267, 50, 71, 130, 151, 158, 165, 179, 49, 38, 70, 59, 129, 150, 157, 164, 178]
abbrev R : PySem.W.OpenRow := PySem.W.OpenLaw.row PySem.Challenge.rw_liftedladders_k41_whole_plays_of_duels
abbrev hk : PySem.W.Hook := hookLX ads fa fn er
def ob (s : PySem.W.SharedT) : AlL := obsLX ads fa fn er (HandSHeadRun.getT s)
theorem ob_eq (s : PySem.W.SharedT) : ob s = hk.obs s.abs := obsLX_eq (HandSHeadRun.getT_eq s)
def loose : List Str := (["_wall", "is_integer", "is_whole", "is_entry", "is_table_row", "is_table", "row_at", "is_result", "_law_pool", "_law_draw", "_law_pick", "_law_entry", "_law_row_at", "_law_duel_rows", "_law_step", "_law_heard", "_law_emptied", "_law_kept", "LadderError", "BadBook", "BadGame", "Duel", "MOST_RATING", "MOST_ROWS", "RESULTS"] : List Str)
theorem three {a b c d : Type} {r : Option a} {f : a → b} {g : a → c} {h : a → d} {x : b} {y : c} {z : d} (h1 : r.map f = some x) (h2 : r.map g = some y) (h3 : r.map h = some z) : r.map (fun s => (f s, g s, h s)) = some (x, y, z) := by
  cases r with
  | none => cases h1
  | some s =>
    simp only [Option.map_some, Option.some.injEq] at h1 h2 h3 ⊢
    rw [h1, h2, h3]
theorem run1 (w : World) (os : OsState) : Option.map (fun s => HandSHeadRun.looksF R.prog (PySem.W.boot_heap w.params) s.abs) (HandSHeadRun.endF (HandSHeadRun.stepQ (HandSHeadRun.denQ HandSHeadRun.tabQ) R.prog w) 8000 R.prog w os) = some true := by
  kernel_rfl
theorem run2 (w : World) (os : OsState) : Option.map (fun s => HandSHeadRun.seenQ (PySem.W.view R.prog [30]) loose (PySem.importedModules R.prog.main.body) (fun s => PySem.W.xlAt (PySem.W.view R.prog [30]) [] s && PySem.W.recOk R.records s) s.abs) (HandSHeadRun.endF (HandSHeadRun.stepQ (HandSHeadRun.denQ HandSHeadRun.tabQ) R.prog w) 8000 R.prog w os) = some (PySem.W.openGood (PySem.W.view R.prog [30]) loose) := by
  kernel_rfl
theorem run3 (w : World) (os : OsState) : Option.map (fun s => ob s) (HandSHeadRun.endF (HandSHeadRun.stepQ (HandSHeadRun.denQ HandSHeadRun.tabQ) R.prog w) 8000 R.prog w os) = some (hk.val w) := by
  kernel_rfl
theorem run (w : World) : HandSHeadRun.RunEq R (PySem.W.view R.prog [30]) hk ob 8000 loose w := fun os => three (run1 w os) (run2 w os) (run3 w os)
end K41
end
section
set_option maxRecDepth 100000
set_option maxHeartbeats 2000000
namespace Lad
open PySem PySem.Spec PyProof.Rows L2
end Lad
end
section
set_option maxRecDepth 100000
set_option maxHeartbeats 2000000
namespace Lad
open PySem PySem.Spec PyProof.Rows L2
end Lad
end
section
set_option maxRecDepth 100000
set_option maxHeartbeats 2000000
namespace Lad
open PySem PySem.Spec PyProof.Rows L2
end Lad
end
section
set_option maxRecDepth 100000
set_option maxHeartbeats 2000000
namespace Lad
open PySem L2
end Lad
end
section
set_option maxRecDepth 100000
set_option maxHeartbeats 1000000
namespace L2
open PySem PySem.Spec PyProof.Rows GenW
section
variable {M : Model} {A : Around} {R : GenEnd} {Y : Protocol} {n : Nat} {s₀ : Shared} {c : Code} {fs : List Frame} {s : Shared} {env : Env}
  {K : Flow → Sem PySem.Fin} {H : Value → Sem PySem.Fin} {gd : Bool → Bool} {lv : List Value → List Value}
/-- the frame that waits for a loop -/
abbrev loopFr (env : Env) (K : Flow → Sem PySem.Fin) (H : Value → Sem PySem.Fin) (gd : Bool → Bool) (lv : List Value → List Value) (c : Code) (p : Pos) : Frame :=
  .ret (fun r => ((match r with | .ok f => (.pure f : Sem Flow) | .error e => .raise e).onRaise (cameBack env)).wrap K H gd lv) none (gd false) (lv []) c p []
theorem seg_For {target iter : Expr} {body : List Stmt} {pos : Pos} (hs : ∀ x, foldedSetIterable iter env x = pure x)
    (h : wpAny M (A.over c fs) (eval iter env) (fun x s1 => wpAny M (A.over c fs) (pyIter x) (fun it s2 => ∀ p,
        Seg M A R Y n s₀ (.forLoop target it body [] env) (M.den (.forLoop target it body [] env)) (loopFr env K H gd lv c p :: fs) s2)
      (fun x s' => Seg M A R Y n s₀ c (H x) fs s') s1) (fun x s' => Seg M A R Y n s₀ c (H x) fs s') s) :
    Seg M A R Y n s₀ c ((exec (.For target iter body [] pos) env).wrap K H gd lv) fs s := by
  rw [exec_For]
  refine seg_bind_wrap (wpAny_standAt ?_)
  refine seg_bind_wrap (wpAny_mono h (fun x s1 h1 => ?_) fun _ _ h' => h')
  refine seg_bind_wrap (wpAny_of_eq (hs x) ?_)
  refine seg_bind_wrap (wpAny_standAt ?_)
  refine seg_bind_wrap (wpAny_holding (wpAny_mono h1 (fun it s2 h2 => ?_) fun _ _ h' => h'))
  exact seg_call h2
/-- what an exception does that leaves a loop's body -/
abbrev noted (env : Env) (e : Value) : Sem PySem.Fin := (do noteFrame e env; theTreesLotGoes e : Sem Unit).bind fun _ => .raise e
end
section
variable {prog : Program} {w : World} {A : Around} {R : GenEnd} {Y : Protocol} {n : Nat} {s₀ : Shared} {fs : List Frame} {s : Shared} {env : Env}
theorem seg_forLoop {target : Expr} {it : Value} {body : List Stmt} {P : Value → Shared → Prop} (hP : ∀ x s', P x s' → Seg (model prog w) A R Y n s₀ (.forLoop target it body [] env) (noted env x) fs s')
    (h : wpAny (model prog w) (A.over (.forLoop target it body [] env) fs) (pyNext it) (fun r s1 => match r with
      | none => Seg (model prog w) A R Y n s₀ (.block [] env) (.pure (.done .next)) fs s1
      | some v => wpAny (model prog w) (A.over (.forLoop target it body [] env) fs) (letOwnedTupleGo target it v) (fun _ s2 =>
          wpAny (model prog w) (A.over (.forLoop target it body [] env) fs) (assign target env v) (fun _ s3 =>
            Seg (model prog w) A R Y n s₀ (.forLoop target it body [] env) ((execs body env).wrap (fun f => match f with
              | .next | .cont => .pure (.again (.forLoop target it body [] env))
              | .brk => .pure (.done .next)
              | .ret v => .pure (.done (.ret v))) (noted env) id id) fs s3) P s2) P s1) P s) :
    Seg (model prog w) A R Y n s₀ (.forLoop target it body [] env) ((model prog w).den (.forLoop target it body [] env)) fs s := by
  show Seg _ A R Y n s₀ _ ((forTurn target it body [] env).onRaise (fun x => do noteFrame x env; theTreesLotGoes x)) fs s
  unfold forTurn
  rw [Sem.onRaise_eq_wrap]
  refine seg_bind_wrap (wpAny_standAt ?_)
  refine seg_bind_wrap (wpAny_onRaise (wpAny_mono h (fun r s1 h1 => ?_) fun x s' hx => wpAny_standAt (hP x s' hx)))
  cases r with
  | none =>
    refine seg_again rfl ?_
    exact h1
  | some v =>
    refine seg_bind_wrap (wpAny_mono h1 (fun _ s2 h2 => ?_) hP)
    refine seg_bind_wrap (wpAny_mono h2 (fun _ s3 h3 => ?_) hP)
    show Seg _ A R Y n s₀ _ (Sem.wrap _ _ _ _ (execs body env >>= _)) fs s3
    rw [Sem.bind_eq_wrap', Sem.wrap_wrap]
    have e := Sem.wrap_congr (execs body env) (K := fun f => Sem.wrap Sem.pure (noted env) id id (match f with
            | .next | .cont => again (.forLoop target it body [] env)
            | .brk => pure (Fin.done Flow.next)
            | .ret v => pure (Fin.done (Flow.ret v)))) (H := fun e => Sem.wrap Sem.pure (noted env) id id (Sem.raise e)) (fun g => id (id g)) (fun l => id (id l)) (K' := fun f => match f with
            | .next | .cont => .pure (.again (.forLoop target it body [] env))
            | .brk => .pure (.done .next)
            | .ret v => .pure (.done (.ret v))) (H' := noted env) (fun f => by cases f <;> rfl) (fun e => rfl)
    exact (congrArg (fun t => Seg (model prog w) A R Y n s₀ (.forLoop target it body [] env) t fs s3) e).mpr h3
end
end L2
end
section
set_option maxRecDepth 100000
set_option maxHeartbeats 2000000
namespace Lad
open PySem L2
inductive GRes where
  | nx (ys : List Val) (e : En) (h : Hea) | rt (ys : List Val) (h : Hea) | bk (ys : List Val) (e : En) (h : Hea) | ct (ys : List Val) (e : En) (h : Hea) | exc (c : Nat) (d : Val) (e : En) (h : Hea) | stuck
abbrev GF := List Val → En → Hea → GRes
def AftG (S : Sy) (ρ : Own) (H : Hp) (r : GRes) (D : GEnds) (W : WX) : Prop := match r with
  | .nx ys e h => ∀ ρ' σ' H' us, Go S ρ H ρ' H' → Rel S ρ' h H' → ER S ρ' H' e σ' → Reps S ρ' H' ys us → D.nx us σ' H'
  | .bk ys e h => ∀ ρ' σ' H' us, Go S ρ H ρ' H' → Rel S ρ' h H' → ER S ρ' H' e σ' → Reps S ρ' H' ys us → D.bk us σ' H'
  | .ct ys e h => ∀ ρ' σ' H' us, Go S ρ H ρ' H' → Rel S ρ' h H' → ER S ρ' H' e σ' → Reps S ρ' H' ys us → D.ct us σ' H'
  | .rt ys h => ∀ ρ' H' us, Go S ρ H ρ' H' → Rel S ρ' h H' → Reps S ρ' H' ys us → D.rt us .non H'
  | .exc c d e h => ∀ ρ' v σ' H' dx, Go S ρ H ρ' H' → Rel S ρ' h H' → Rep S ρ' H' d v → ER S ρ' H' e σ' → H' dx = some (.xd [(S.fld c, v)]) → W (.ref (S.ca c)) (some dx) σ' H'
  | .stuck => False
theorem AftG.later {S : Sy} {ρ ρ1 : Own} {H H1 : Hp} {r : GRes} {D : GEnds} {W : WX} (a : AftG S ρ H r D W) (s : Go S ρ H ρ1 H1) : AftG S ρ1 H1 r D W := by
  cases r with
  | nx ys e h => exact fun ρ' σ' H' us g => a ρ' σ' H' us (s.trans g)
  | bk ys e h => exact fun ρ' σ' H' us g => a ρ' σ' H' us (s.trans g)
  | ct ys e h => exact fun ρ' σ' H' us g => a ρ' σ' H' us (s.trans g)
  | rt ys h => exact fun ρ' H' us g => a ρ' H' us (s.trans g)
  | exc c d e h => exact fun ρ' v σ' H' dx g => a ρ' v σ' H' dx (s.trans g)
  | stuck => exact a
theorem _root_.L2.GS.imp {X : Cx} {st : Stmt} {t t' : TGn} (p : GS X st t) (i : ∀ D ys σ H, t' D ys σ H → t D ys σ H) : GS X st t' :=
  ⟨fun A S ip R n ys s₀ c fs K J gd lv s σ H D g hn k hI ht => p.run A S ip R n ys s₀ c fs K J gd lv s σ H D g hn k hI (i D ys σ H ht)⟩
theorem _root_.L2.GSs.imp {X : Cx} {st : List Stmt} {t t' : TGn} (p : GSs X st t) (i : ∀ D ys σ H, t' D ys σ H → t D ys σ H) : GSs X st t' :=
  ⟨fun A S ip R n ys s₀ c fs K J gd lv s σ H D g hn k hI ht => p.run A S ip R n ys s₀ c fs K J gd lv s σ H D g hn k hI (i D ys σ H ht)⟩
def gNil : GF := fun ys e h => .nx ys e h
def ofG {α : Type} (r : Res α) (e : En) (k : α → Hea → GRes) : GRes := match r with
  | .ok a h => k a h
  | .exc c d h => .exc c d e h
  | .stuck => .stuck
section
variable {S : Sy} {W : WX} {H : Hp} {D : GEnds} {ρ : Own} {σ : St} {e : En}
theorem AftG.ofR {r : Res Val} {k : Val → Hea → GRes} (a : AftG S ρ H (ofG r e k) D W) (E : ER S ρ H e σ) :
    Aft S ρ H r (fun v H1 => ∃ ρ1 d h1, Go S ρ H ρ1 H1 ∧ Rel S ρ1 h1 H1 ∧ Rep S ρ1 H1 d v ∧ ER S ρ1 H1 e σ ∧ AftG S ρ1 H1 (k d h1) D W) (fun c d H' => W c d σ H') := by
  cases r with
  | ok d h => exact fun ρ1 v H1 s R r => ⟨ρ1, d, h, s, R, r, E.go s, AftG.later (r := k d h) a s⟩
  | exc c d h => exact fun ρ1 v H1 dx s R r x => a ρ1 v σ H1 dx s R r (E.go s) x
  | stuck => exact a
theorem AftG.ofI {r : Res Src} {k : Src → Hea → GRes} (a : AftG S ρ H (ofG r e k) D W) (E : ER S ρ H e σ) :
    AftI S ρ H r (fun J H1 => ∃ ρ1 d h1, Go S ρ H ρ1 H1 ∧ Rel S ρ1 h1 H1 ∧ JOk S ρ1 H1 J d.item ∧ ER S ρ1 H1 e σ ∧ AftG S ρ1 H1 (k d h1) D W) (fun c d H' => W c d σ H') := by
  cases r with
  | ok d h => exact fun ρ1 H1 J s R r => ⟨ρ1, d, h, s, R, r, E.go s, AftG.later (r := k d h) a s⟩
  | exc c d h => exact fun ρ1 v H1 dx s R r x => a ρ1 v σ H1 dx s R r (E.go s) x
  | stuck => exact a
end
end Lad
end
section
set_option maxRecDepth 100000
set_option maxHeartbeats 2000000
namespace Lad
open PySem
open L2
end Lad
end
section
set_option maxRecDepth 100000
set_option maxHeartbeats 2000000
namespace Lad
open PySem L2
end Lad
end
section
set_option maxRecDepth 100000
set_option maxHeartbeats 1000000
namespace Lad
open PySem L2
def gL (is : List Nat) : Val → En → Option En := fun v e => match v with
  | .lst xs => setAll is xs e
  | _ => none
def eCall0 (cf : List Val → Hea → Res Val) : En → Hea → Res Val := fun _ h => cf [] h
end Lad
end
section
set_option maxRecDepth 100000
set_option maxHeartbeats 1000000
namespace Lad
open PySem L2
end Lad
end
section
set_option maxRecDepth 100000
set_option maxHeartbeats 1000000
namespace Lad
open PySem L2
end Lad
end
section
set_option maxRecDepth 100000
set_option maxHeartbeats 2000000
namespace Lad
open PySem L2
end Lad
end
section
set_option maxRecDepth 100000
set_option maxHeartbeats 2000000
namespace Lad
open PySem L2
abbrev RSl := V → Option Int → Option Int → Hp → VK → Prop
def rSlOr (r1 r2 : RSl) : RSl := fun x l u H Q => r1 x l u H Q ∨ r2 x l u H Q
theorem slr_or {X : Cx} {r1 r2 : RSl} (h1 : SlR X r1) (h2 : SlR X r2) : SlR X (rSlOr r1 r2) := by
  intro pins s σ H x v vl vu lo hi sl Q I rx hs pl pu h
  rcases h with h | h
  · exact h1 pins s σ H x v vl vu lo hi sl Q I rx hs pl pu h
  · exact h2 pins s σ H x v vl vu lo hi sl Q I rx hs pl pu h
def eCutA (f : En → Hea → Res Val) (lo hi : Option (En → Hea → Res Val)) : En → Hea → Res Val := fun e h => (f e h).bind fun d h1 => (eOpt lo e h1).bind fun l h2 => (eOpt hi e h2).bind fun u h3 => match d with
  | .tup xs => .ok (.tup (cutL xs l u)) h3
  | d => match lstOf h3 d with
    | some xs => .ok (.lst (cutL xs l u)) h3
    | none => .stuck
theorem Aft.lst {S : Sy} {H : Hp} {ρ : Own} {h : Hea} {xs : List Val} {vs : List V} {Q : VK} {W : XK} (a : Aft S ρ H (.ok (.lst xs) h) Q W) (R : Rel S ρ h H) (r : Reps S ρ H xs vs) (p : Addr) (n : H p = none) : Q (.ref p) (upd H p (.lst vs)) :=
  a ρ (.ref p) _ (.side n) (R.side n) (.lst (R.fz n) upd_same (r.mono (.side n)))
section
variable {T : Tb} {X : Cx} {W : WX} {a : Expr} {lo hi : Option Expr} {f : En → Hea → Res Val} {l u : Option (En → Hea → Res Val)} {p2 pos : Pos}
theorem se_cutA (ha : SE T X W a f) (hl : PO X lo (tO (sy T X) W l)) (hu : PO X hi (tO (sy T X) W u)) : SE T X W (.Subscript a (.Slice lo hi none p2) pos) (eCutA f l u) :=
  (pe_slice (slr_or L2.sl_tupS L2.sl_list) ha hl hu).imp fun σ H Q q => by
    obtain ⟨ρ, e, h, R, E, a⟩ := q
    unfold eCutA at a
    refine ⟨ρ, e, h, R, E, a.bind.mono fun v H1 ⟨ρ1, d, h1, s, R1, r1, a1⟩ => ⟨ρ1, e, h1, R1, E.go s, (AftO.bind a1).mono fun lv H2 ⟨ρ2, h2, s2, R2, a2⟩ => ⟨ρ2, e, h2, R2, (E.go s).go s2, (AftO.bind a2).mono fun uv H3 ⟨ρ3, h3, s3, R3, a3⟩ => ?_⟩⟩⟩
    have r3 := (r1.go s2).go s3
    split at a3
    · rename_i xs
      cases r3 with
      | tup ht hr =>
        refine .inl ⟨_, _, rfl, ht.sq, fun hw => ?_, fun hw => ?_⟩
        · rw [← hr.length] at hw
          rw [cutL_whole hw] at a3
          exact a3.same R3 (.tup ht hr)
        · exact a3.tup R3 (hr.slc lv uv)
    · split at a3
      · rename_i xs hx
        obtain ⟨p, vs, ev, sq, rr⟩ := R3.lstV r3 hx
        exact .inr ⟨p, vs, ev, sq, fun l n => a3.lst R3 (rr.slc lv uv) l n⟩
      · exact a3.elim
end
end Lad
end
section
set_option maxRecDepth 100000
set_option maxHeartbeats 1000000
namespace Lad
open PySem L2
end Lad
end
section
set_option maxRecDepth 100000
set_option maxHeartbeats 1000000
namespace Lad
open PySem L2
end Lad
end
section
set_option maxRecDepth 100000
namespace Lad
open PySem L2
end Lad
end
section
set_option maxRecDepth 100000
namespace Lad
open PySem L2
end Lad
end
section
set_option maxRecDepth 100000
set_option maxHeartbeats 2000000
namespace L2
open PySem PySem.Spec PyProof.Rows
end L2
namespace Lad
open PySem L2
end Lad
end
section
set_option maxRecDepth 100000
set_option maxHeartbeats 2000000
namespace Lad
open PySem L2 PySem.Spec PyProof.Rows
def isTL : List Val → Bool
  | [.tup _, .lst _] => true
  | _ => false
def isLT : List Val → Bool
  | [.lst _, .tup _] => true
  | _ => false
theorem isTL_inv : ∀ {ds : List Val}, isTL ds = true → ∃ xs ys, ds = [.tup xs, .lst ys]
  | [.tup xs, .lst ys], _ => ⟨xs, ys, rfl⟩
theorem isLT_inv : ∀ {ds : List Val}, isLT ds = true → ∃ xs ys, ds = [.lst xs, .tup ys]
  | [.lst xs, .tup ys], _ => ⟨xs, ys, rfl⟩
def zipTwo : List Val → List Val
  | [.tup xs, .lst ys] => zipV xs ys
  | [.lst xs, .tup ys] => zipV xs ys
  | _ => []
/-- zip of one of each -/
def iZipX (q : List Val → Bool) (f : En → Hea → Res (List Val)) : En → Hea → Res Src := fun e h => (f e h).bind fun ds h1 => if q ds = true then .ok (srcFix (zipTwo ds)) h1 else .stuck
def zipK (ds : List Val) (h1 : Hea) : Res Src := match ds with
  | [.lst xs, .lst ys] => .ok (srcFix (zipV xs ys)) h1
  | [.tup xs, .tup ys] => .ok (srcFix (zipV xs ys)) h1
  | [d1, d2] => if ((lstOf h1 d1).isSome && (lstOf h1 d2).isSome) = true then .ok (srcZipL d1 d2) h1 else .stuck
  | _ => .stuck
/-- zip of two lists, of two tuples, of one of each -/
def iZipW (f : En → Hea → Res (List Val)) : En → Hea → Res Src := fun e h => (f e h).bind fun ds h1 => if (isTL ds || isLT ds) = true then .ok (srcFix (zipTwo ds)) h1 else zipK ds h1
section
variable {T : Tb} {X : Cx} {W : WX} {tg a b : Expr} {g : En → Hea → Res (List Val)} {pos p tpos : Pos} {elts : List Expr} {kk : Nat}
theorem si_zipTL (hg : Gl X "zip") (hm : X.mg "zip" = none) (ha : SA T X W [a, b] g) (hs : starEach [a, b] X.env = (false, eval a X.env) :: starEach [b] X.env := by rfl) (hpl : (backTo pos (starEach [b] X.env)).any (·.1) = false := by rfl) :
    SI T X W (.Tuple elts kk tpos) (.Call (.Name "zip" p) [a, b] [] pos) (iZipX isTL g) := (pi_zm .T .L hg hm ha hs hpl).imp fun σ H Q q => by
  obtain ⟨ρ, e, h, R, E, a⟩ := q
  refine ⟨ρ, e, h, R, E, (AftI.bindA a).mono fun v H1 ⟨ρ1, d, h1, s, R1, r, a1⟩ => ?_⟩
  split at a1
  · rename_i hd
    obtain ⟨xs, ys, rfl⟩ := isTL_inv hd
    match v, r with
    | [v1, v2], .cons r1 (.cons r2 .nil) =>
      obtain ⟨p1, us1, rfl, sq1, rr1⟩ := r1.tup_
      cases r2 with
      | lst f2 hl2 rr2 => exact ⟨_, _, _, _, rfl, sq1.sq, .inl (.inl hl2), a1 ρ1 H1 _ .rfl R1 (j_zm (fun _ _ m => m.kp.1 _ _ sq1.sq) (fun _ _ m => .inl (.inl (m.lst f2 hl2))) rr1 rr2)⟩
  · exact a1.elim
theorem si_zipLT (hg : Gl X "zip") (hm : X.mg "zip" = none) (ha : SA T X W [a, b] g) (hs : starEach [a, b] X.env = (false, eval a X.env) :: starEach [b] X.env := by rfl) (hpl : (backTo pos (starEach [b] X.env)).any (·.1) = false := by rfl) :
    SI T X W (.Tuple elts kk tpos) (.Call (.Name "zip" p) [a, b] [] pos) (iZipX isLT g) := (pi_zm .L .T hg hm ha hs hpl).imp fun σ H Q q => by
  obtain ⟨ρ, e, h, R, E, a⟩ := q
  refine ⟨ρ, e, h, R, E, (AftI.bindA a).mono fun v H1 ⟨ρ1, d, h1, s, R1, r, a1⟩ => ?_⟩
  split at a1
  · rename_i hd
    obtain ⟨xs, ys, rfl⟩ := isLT_inv hd
    match v, r with
    | [v1, v2], .cons r1 (.cons r2 .nil) =>
      obtain ⟨p2, us2, rfl, sq2, rr2⟩ := r2.tup_
      cases r1 with
      | lst f1 hl1 rr1 => exact ⟨_, _, _, _, rfl, .inl (.inl hl1), sq2.sq, a1 ρ1 H1 _ .rfl R1 (j_zm (fun _ _ m => .inl (.inl (m.lst f1 hl1))) (fun _ _ m => m.kp.1 _ _ sq2.sq) rr1 rr2)⟩
  · exact a1.elim
theorem zipK_eq {e : En} {h : Hea} : iZipV g e h = (g e h).bind zipK := rfl
theorem si_zipW (hg : Gl X "zip") (hm : X.mg "zip" = none) (ha : SA T X W [a, b] g) (hs : starEach [a, b] X.env = (false, eval a X.env) :: starEach [b] X.env := by rfl) (hpl : (backTo pos (starEach [b] X.env)).any (·.1) = false := by rfl) :
    SI T X W (.Tuple elts kk tpos) (.Call (.Name "zip" p) [a, b] [] pos) (iZipW g) := (pi_or (si_zip hg hm ha hs hpl) (pi_or (si_zipTL hg hm ha hs hpl) (si_zipLT hg hm ha hs hpl))).imp fun σ H Q q => by
  obtain ⟨ρ, e, h, R, E, a⟩ := q
  unfold iZipW at a
  cases hf : g e h with
  | ok ds h1 =>
    rw [hf] at a
    simp only [bindOk] at a
    by_cases h2 : isTL ds = true
    · refine .inr (.inl ⟨ρ, e, h, R, E, ?_⟩)
      unfold iZipX
      rw [hf, bindOk, if_pos h2]
      rw [if_pos (by rw [h2]; rfl)] at a
      exact a
    · by_cases h3 : isLT ds = true
      · refine .inr (.inr ⟨ρ, e, h, R, E, ?_⟩)
        unfold iZipX
        rw [hf, bindOk, if_pos h3]
        rw [if_pos (by rw [h3, Bool.or_true])] at a
        exact a
      · refine .inl ⟨ρ, e, h, R, E, ?_⟩
        rw [zipK_eq, hf, bindOk]
        rw [if_neg (by simp [h2, h3])] at a
        exact a
  | exc c d h1 =>
    refine .inl ⟨ρ, e, h, R, E, ?_⟩
    rw [zipK_eq, hf]
    rw [hf] at a
    exact a
  | stuck => rw [hf] at a; exact a.elim
end
end Lad
end
section
set_option maxRecDepth 100000
set_option maxHeartbeats 2000000
namespace Lad
open PySem PySem.Spec PyProof.Rows L2
def lAdd (f1 f2 : En → Hea → Res Val) : En → Hea → Res (List Val) := fun e h => (f1 e h).bind fun x h1 => (f2 e h1).bind fun y h2 => match lstP h2 x, lstP h2 y with
  | some xs, some ys => if xs.length + ys.length ≤ 16777216 then .ok (xs ++ ys) h2 else .stuck
  | _, _ => .stuck
end Lad
end
section
set_option maxRecDepth 100000
set_option maxHeartbeats 2000000
namespace Lad
open PySem PySem.Spec PyProof.Rows L2
end Lad
end
section
set_option maxRecDepth 100000
set_option maxHeartbeats 2000000
namespace Lad
open PySem PySem.Spec PyProof.Rows L2
end Lad
end
section
set_option maxRecDepth 100000
set_option maxHeartbeats 2000000
namespace Lad
open PySem PySem.Spec PyProof.Rows L2
open PySem.W (Frag)
end Lad
end
section
namespace Lad
open PySem L2
end Lad
end
section
set_option maxRecDepth 100000
set_option maxHeartbeats 1000000
namespace Lad
open PySem L2
end Lad
end
section
set_option maxRecDepth 100000
set_option maxHeartbeats 2000000
namespace Lad
open PySem L2
open PySem.W (Frag)
/-- as FnOk, for calls where it is known that nothing is being shown -/
structure FnG (P : Program) (w : World) (K : Frag) (mg : Str → Option Value) (base : Heap) (CX : CXT) (k : Nat) (f : Addr) (fd : FuncData) (ps : List Str) (sp : Sp) : Prop where
  len : ∀ vs H Q E, sp vs H Q E → vs.length = ps.length
  go : ∀ (A : Around) (outer : List Env) (s : Shared) (H : Hp) (args : Args) (us : List Value) (vs : List V) (Q : VK) (E : XK), Room k A → A.guards = some [] → Env0 P w K mg base A outer s H →
    BindsTo s fd args (ps.zip us) → Vals vs us → sp vs H Q E → codeAny (model P w) A (.call (.ref f) args) (CR CX outer P w H s Q E) s
/-- a def by its body -/
theorem fnG_of {P : Program} {w : World} {K : Frag} {mg : Str → Option Value} {base : Heap} {x qual : Str} {st : Stmt} {f : Addr} {fd : FuncData} {N ps : List Str} {k : Nat} {sp : Sp}
    (F : Fun K x qual st f fd) (S : FnScope N ps (defScope st)) (hlen : ∀ vs H Q E, sp vs H Q E → vs.length = ps.length)
    (body : ∀ (cdv : Value) (A : Around) (outer : List Env) (s : Shared) (H : Hp) (vs : List V) (Q : VK) (E : XK), Room k (A.deeper (PyProof.Rows.envOfC qual (defScope st) s.heap.objs.size f cdv)) → A.guards = some [] → sp vs H Q E →
      ∃ t, PSs (cxOf (L2.CX P w) P w K mg base N qual (defScope st) f cdv A outer s H E) (defBody st) t ∧ t { nx := fun _ H' => Q .non H', rt := Q } (start N vs) H) :
    FnG P w K mg base (L2.CX P w) (k + 1) f fd ps sp := by
  obtain ⟨oc, od, kV, doc, pm, an, cdv, ct, osl, rfl, lk, hcd⟩ := F.ex
  refine ⟨hlen, ?_⟩
  intro A outer s H args us vs Q E room hgd env0 bind rel hsp
  have stay : ∀ b o, base.get? b = some o → s.heap.get? b = some o := fun b o e => (env0.bs b o e).1
  have hK : K.In s.heap := env0.mod.kin.keeps stay
  have noLim : s.heap.NoLimit := env0.mod.nolimit.keeps stay
  have kinds : ∀ y ∈ ps.zip us, (defScope st).names.lookup y.1 = some .local ∨ ((defScope st).names.lookup y.1 = some .cell ∧ ((cellsFrom (s.heap.objs.size + 1) (defScope st).names []).lookup y.1).isSome = true) := by
    rintro ⟨n, v⟩ hy
    rcases S.par n (List.of_mem_zip hy).1 with q | q
    · exact Or.inl q
    · exact Or.inr ⟨q, PySem.W.cellsFrom_some _ _ _ (Or.inl q)⟩
  refine codeAny_call_function room.depth (hK _ _ lk) rfl S.co S.gen rfl (PySem.W.codeRec_of hK hcd) (bind _ _ _ _ ?_)
  refine wpAny_newFunctionEnv_cells S.kind kinds ?_
  intro env he s1 inC
  subst he
  refine ⟨noLim.keeps inC.toInCall.keep, codeAny_func ?_⟩
  obtain ⟨t, ht, hq⟩ := body cdv A outer s H vs Q E (room.deeper _) hgd hsp
  have I0 : Inv (cxOf (L2.CX P w) P w K mg base N qual (defScope st) f cdv A outer s H E) [] (start N vs) H s1 := inv_start S room.hd env0 (hlen _ _ _ _ hsp) rel inC
  refine wpAny_mono (ht.run [] s1 (start N vs) H _ I0 hq) ?_ (fun e s' h => h)
  intro fl s' h
  cases fl with
  | ret u =>
    obtain ⟨v, σ', H', J, rv, q⟩ := h
    exact ⟨v, H', J.os, J.bare, J.base, J.hok, rv, q⟩
  | next =>
    obtain ⟨σ', H', J, q⟩ := h
    exact ⟨V.non, H', J.os, J.bare, J.base, J.hok, rfl, q⟩
  | brk => exact h.elim fun _ z => z.elim fun _ z => z.2.elim
  | cont => exact h.elim fun _ z => z.elim fun _ z => z.2.elim
theorem fnG_ok {P : Program} {w : World} {K : Frag} {mg : Str → Option Value} {base : Heap} {T : Tb} {x qual : Str} {st : Stmt} {f : Addr} {fd : FuncData} {N ps : List Str} {k : Nat} {fb : En → Hea → SRes}
    {fn : Hea → Val → Hea → Res Val} (fo : FinOk fn) (F : Fun K x qual st f fd) (Sc : FnScope N ps (defScope st))
    (hb : ∀ (cdv : Value) (A : Around) (outer : List Env) (s : Shared) (H : Hp) (E : XK), Room k (A.deeper (PyProof.Rows.envOfC qual (defScope st) s.heap.objs.size f cdv)) → A.guards = some [] →
      SSs T (cxOf (L2.CX P w) P w K mg base N qual (defScope st) f cdv A outer s H E) (fun c d _ H' => E c d H') (defBody st) fb) :
    FnG P w K mg base (L2.CX P w) (k + 1) f fd ps (spEv ⟨K, T.ca, T.nm, T.fld, P, w, T.ex⟩ (runG fn ps.length N.length fb)) :=
  fnG_of F Sc (fun vs H Q E q => (runB_ok fo q).1) fun cdv A outer s H vs Q E hr hG q => ⟨_, hb cdv A outer s H E hr hG, (runB_ok fo q).2⟩
section
variable {T : Tb} {X : Cx} {W : WX} {x : Str} {f : Addr} {fd : FuncData} {ps : List Str} {k : Nat} {sp : Sp} {cf : List Val → Hea → Res Val} {e : Expr} {es : List Expr} {g : En → Hea → Res (List Val)} {p pos : Pos} {t : TA}
theorem run_G {E : St → XK} {pins : List (Addr × Obj)} {σ : St} {H : Hp} {s : Shared} {Q : VK} {us : List Value} {vs : List V} (F : FnG X.prog X.w X.K X.mg X.base (L2.CX X.prog X.w) k f fd ps sp) (hr : Room k X.A) (hG : X.A.guards = some [])
    (hb : Binds X.K fd ps []) (hx : PassesAt (L2.CX X.prog X.w) X σ (E σ)) (I : Inv X pins σ H s) (r : Vals vs us) (w : sp vs H Q (E σ)) : wpAny (model X.prog X.w) X.A (call (.ref f) us) (EP X pins σ Q) X.xe s := by
  have b := hb s us I.kIn (by rw [List.append_nil, ← r.length]; exact F.len _ _ _ _ w)
  rw [List.append_nil] at b
  have body := F.go X.A X.stack s H ⟨us, []⟩ us vs Q (E σ) hr hG I.env0 b r w
  refine wpAny_call (codeAny_mono body ?_)
  intro res s' hq
  match res with
  | .error e => exact hx pins H s e s' I hq
  | .ok (.ret u) => exact I.after hq
  | .ok .next => exact hq.elim
  | .ok .brk => exact hq.elim
  | .ok .cont => exact hq.elim
theorem pe_callG {E : St → XK} (F : FnG X.prog X.w X.K X.mg X.base (L2.CX X.prog X.w) k f fd ps sp) (hr : Room k X.A) (hG : X.A.guards = some []) (hg : Gl X x) (hm : X.mg x = some (.ref f)) (hk : PySem.W.keepIn X.K (.ref f) = true)
    (hb : Binds X.K fd ps []) (hx : ∀ σ, PassesAt (L2.CX X.prog X.w) X σ (E σ)) (ha : PA X (e :: es) t) (hdb : (x == ("__debug__" : Str)) = false := by decide)
    (he : starEach (e :: es) X.env = (false, eval e X.env) :: starEach es X.env := by rfl) (hpl : (backTo pos (starEach es X.env)).any (·.1) = false := by rfl) :
    PE X (.Call (.Name x p) (e :: es) [] pos) (tCallS sp E t) := by
  constructor
  intro pins s σ H Q I w
  refine wpAny_Call_Name_kw (ld_glob I hg hm ?_ hdb)
  have args := ha.run pos pins s σ H _ I w
  refine PySem.W.callWith_K (h₀ := X.base) I.ok.mod.kin hk (thn args ?_) he hpl
  rintro us s1 ⟨vs, H1, I1, r, q⟩
  exact ⟨I1.kIn, run_G F hr hG hb (hx σ) I1 r q⟩
theorem se_callG (F : FnG X.prog X.w X.K X.mg X.base (L2.CX X.prog X.w) k f fd ps (spEv (sy T X) cf)) (hr : Room k X.A) (hG : X.A.guards = some []) (hg : Gl X x) (hm : X.mg x = some (.ref f)) (hk : PySem.W.keepIn X.K (.ref f) = true) (hb : Binds X.K fd ps []) (tk : Takes X W)
    (ha : SA T X W (e :: es) g) (hdb : (x == ("__debug__" : Str)) = false := by decide) (he : starEach (e :: es) X.env = (false, eval e X.env) :: starEach es X.env := by rfl) (hpl : (backTo pos (starEach es X.env)).any (·.1) = false := by rfl) :
    SE T X W (.Call (.Name x p) (e :: es) [] pos) (eCall cf g) :=
  (pe_callG (E := fun σ => WE W σ) F hr hG hg hm hk hb (fun σ => passAt tk σ) ha hdb he hpl).imp fun σ H Q q => by
    obtain ⟨ρ, e, h, R, E, a⟩ := q
    exact ⟨ρ, e, h, R, E, (AftA.bind a).mono fun vs H1 ⟨ρ1, ds, h1, s, R1, r1, a1⟩ => ⟨ρ1, h1, ds, R1, r1, a1⟩⟩
end
theorem u70 {A : Around} {k : Nat} (hr : Room k A) : A.units + 70 < cLine := by have := hr.un; omega
section
variable {T : Tb} {X : Cx}
theorem call_reprD (hG : X.A.guards = some []) (hu : X.A.units + 70 < cLine) : CallR X (.builtin "repr") (fun xs H Q => ∃ (a : Addr) (d : PyData), xs = [.ref a] ∧ Dp X.K H (.ref a) d ∧ d.showable = true ∧ d.hasDict = false ∧ d.depth ≤ 64 ∧ d.shown.length ≤ sizeLine ∧ Q (.str d.shown) H) := by
  intro pins s σ H xs us Q I r h
  obtain ⟨a, d, rfl, hd, h1, h2, h3, h4, q⟩ := h
  match us, r with
  | [_], .cons rb .nil =>
    cases rb
    obtain ⟨as, rd⟩ := Dp.reads I d (.ref a) (.ref a) hd rfl
    refine repr_of_reads' rd h1 (fun z => by rw [h2] at z; cases z) hG (by omega) (fun _ _ z => z) ?_ h4
    intro h' u tk hk
    exact ⟨.str d.shown, H, I.kept hk, ⟨u, rfl⟩, q⟩
def shOk (d : PyData) : Bool := d.showable && !d.hasDict && decide (d.depth ≤ 64) && decide (d.shown.length ≤ 16777216)
def gReprD (h : Hea) (ds : List Val) : Option Val := match gReprB h ds with
  | some v => some v
  | none => match ds with
    | [.tup xs] => match toD 60 h (.tup xs) with
      | some p => if shOk p = true then some (.str p.shown) else none
      | none => none
    | [.lst xs] => match toD 60 h (.lst xs) with
      | some p => if shOk p = true then some (.str p.shown) else none
      | none => none
    | [.ref i] => match toD 60 h (.ref i) with
      | some p => if shOk p = true then some (.str p.shown) else none
      | none => none
    | _ => none
theorem reprD_one {d : Val} {vs : List V} {H : Hp} {Q : VK} {ρ : Own} {h : Hea} (R : Rel (sy T X) ρ h H) (r : Reps (sy T X) ρ H [d] vs) (hv : ∀ v, Rep (sy T X) ρ H d v → ∃ a, v = .ref a)
    (a : Aft (sy T X) ρ H (opt (match toD 60 h d with | some p => if shOk p = true then some (.str p.shown) else none | none => none) h) Q (fun _ _ _ => False)) :
    ∃ (a : Addr) (d : PyData), vs = [.ref a] ∧ Dp X.K H (.ref a) d ∧ d.showable = true ∧ d.hasDict = false ∧ d.depth ≤ 64 ∧ d.shown.length ≤ sizeLine ∧ Q (.str d.shown) H := by
  match vs, r with
  | [v], .cons q .nil =>
    obtain ⟨b, rfl⟩ := hv v q
    cases hp : toD 60 h d with
    | none => rw [hp] at a; exact a.elim
    | some p =>
      rw [hp] at a
      dsimp only at a
      by_cases hs : shOk p = true
      · rw [if_pos hs] at a
        unfold shOk at hs
        simp only [Bool.and_eq_true, Bool.not_eq_true', decide_eq_true_eq] at hs
        exact ⟨b, p, rfl, toD_dp R _ _ _ _ q hp, hs.1.1.1, hs.1.1.2, hs.1.2, hs.2, Aft.same (d := .str _) a R (.str _)⟩
      · rw [if_neg hs] at a; exact a.elim
theorem g_reprD (hG : X.A.guards = some []) (hu : X.A.units + 70 < cLine) : CallR X (.builtin "repr") (rC (sy T X) gReprD) := CallR.imp (CallR.or (g_reprB (T := T)) (call_reprD hG hu)) fun vs H Q h => by
  obtain ⟨ρ, h, ds, R, r, a⟩ := h
  unfold gReprD at a
  cases hb : gReprB h ds with
  | some v =>
    rw [hb] at a
    refine .inl ⟨ρ, h, ds, R, r, ?_⟩
    rw [hb]
    exact a
  | none =>
    rw [hb] at a
    dsimp only at a
    split at a
    · exact .inr (reprD_one R r (fun v q => by cases q; exact ⟨_, rfl⟩) a)
    · exact .inr (reprD_one R r (fun v q => by cases q; exact ⟨_, rfl⟩) a)
    · exact .inr (reprD_one R r (fun v q => by cases q; exact ⟨_, rfl⟩) a)
    · exact a.elim
end
open PySem.Spec PyProof.Rows
/-- the heap with the script alone -/
def hpOf (a : Addr) (vs : List Value) (ns : List Int) : Hp := fun b => if b = a then some (.frz { cls := .type "list", data := .seq vs.toArray } (.lst (ns.map V.int))) else none
theorem hpOf_at {a : Addr} {vs : List Value} {ns : List Int} : hpOf a vs ns a = some (.frz { cls := .type "list", data := .seq vs.toArray } (.lst (ns.map V.int))) := if_pos rfl
theorem hpOf_ne {a b : Addr} {vs : List Value} {ns : List Int} (h : b ≠ a) : hpOf a vs ns b = none := if_neg h
theorem law_G {P : Program} {w : World} {K : Frag} {mg mb : Str → Option Value} {k : Nat} {fa a : Addr} {fd : FuncData} {x : Str} {sp : Sp} {s : Shared} {vs : List Value} {ns : List Int}
    (nl : noList K = true) (KX : K.In s.heap) (hns : s.heap.Ns mainGlobals mg) (hbn : s.heap.Ns builtinsNs mb) (hbb : ∀ x : Str, x ≠ "__name__" → mb x = bootBuiltins x) (hlim : s.heap.NoLimit) (hgn : s.gens = #[])
    (ha : s.heap.get? a = some { cls := .type "list", data := .seq vs.toArray }) (hi : IntsAre vs ns) (hl : ns.length ≤ sizeLine) (hr : Room k callerA)
    (F : ∀ base : Heap, K.In base → base.Ns mainGlobals mg → FnG P w K mg base (L2.CX P w) k fa fd [x] sp) (hbind : ∀ (s : Shared) (u : Value), BindsTo s fd ⟨[u], []⟩ [(x, u)])
    (hsp : ∀ H : Hp, Only H → SqL K H a (ns.map V.int) → sp [.ref a] H (fun v _ => v = .bl true) fun _ _ _ => False) :
    codeAny (model P w) callerA (.call (.ref fa) ⟨[.ref a], []⟩) (fun r s' => r = .ok (.ret (.bool true)) ∧ OldK s.heap s'.heap ∧ s'.os = s.os ∧ AllBare s'.gens) s := by
  have only : Only (hpOf a vs ns) := by
    intro b
    by_cases hb : b = a
    · rw [hb]; exact Or.inr ⟨_, _, hpOf_at⟩
    · exact Or.inl (hpOf_ne hb)
  have track : ∀ {b : Addr} {o : HO}, hpOf a vs ns b = some o → b = a := by
    intro b o e
    by_cases hb : b = a
    · exact hb
    · rw [hpOf_ne hb] at e; cases e
  have hok : HOk P w (hpOf a vs ns) s.heap := by
    intro b u e
    have hb := track e
    subst hb
    rw [hpOf_at] at e
    cases e
    exact ⟨ha, by rw [List.length_map]; exact hl, vs, _, vals_ints hi, ha⟩
  have keep : ∀ {b : Addr} {o : Obj}, s.heap.get? b = some o → b ≠ a → (hidT s.heap (hpOf a vs ns)).get? b = some o := fun e n => hidT_get e (hpOf_ne n)
  have nsOk : ∀ {b : Addr} {m : Str → Option Value}, s.heap.Ns b m → (hidT s.heap (hpOf a vs ns)).Ns b m := by
    rintro b m ⟨o, es, ep, e, d, r⟩
    refine ⟨o, es, ep, keep e ?_, d, r⟩
    rintro rfl
    rw [ha] at e
    cases e
    cases (show Data.seq vs.toArray _ = Data.dict es ep from d)
  have inOk : K.In (hidT s.heap (hpOf a vs ns)) := by
    intro b o e
    refine keep (KX b o e) ?_
    rintro rfl
    have z := KX b o e
    rw [ha] at z
    cases z
    exact noList_ok nl e rfl
  have modOk : Mod K mg (hidT s.heap (hpOf a vs ns)) := by
    obtain ⟨mc, q1, q2⟩ := hlim
    exact ⟨inOk, nsOk hns, ⟨mb, nsOk hbn, hbb⟩, ⟨mc, nsOk q1, q2⟩⟩
  have env : Env0 P w K mg (hidT s.heap (hpOf a vs ns)) callerA [] s (hpOf a vs ns) :=
    ⟨rfl, modOk, fun b o e => of_hidT e, Nat.le_of_eq (hidT_size _ _), trivial, fun b hb => (List.not_mem_nil hb).elim, hok, .of_eq hgn⟩
  have told := (F _ inOk (nsOk hns)).go callerA [] s (hpOf a vs ns) ⟨[.ref a], []⟩ [.ref a] [.ref a] _ _ hr rfl env (hbind s (.ref a)) (.cons rfl .nil) (hsp _ only (.inl (.inr ⟨_, hpOf_at⟩)))
  refine codeAny_mono told ?_
  intro res s' h
  match res with
  | .error e =>
    obtain ⟨_, _, _, _, _, _, _, _, _, _, _, _, z⟩ := h
    exact z.elim
  | .ok .next => exact h.elim
  | .ok .brk => exact h.elim
  | .ok .cont => exact h.elim
  | .ok (.ret u) =>
    obtain ⟨v, H', os, bare, un, hok', rv, q⟩ := h
    have q : v = .bl true := q
    subst q
    obtain rfl : u = Value.bool true := rv
    refine ⟨rfl, OldK.of_keep ?_, os, bare⟩
    intro b o e
    by_cases hb : b = a
    · subst hb
      have z2 := un.frzs b _ _ hpOf_at
      obtain ⟨e2, _⟩ := hok' b _ z2
      rw [ha] at e
      cases e
      exact e2
    · exact un.keep b o e (hpOf_ne hb) (fun z => (List.not_mem_nil z).elim) (by simp)
theorem walk_G {l : PySem.W.OpenLaw} {n k : Nat} {q : Program} {loose : List Str} {XP : (Str → Option Value) → Heap → Prop} {YP : World → Heap → Prop} {d : DefRec} {x : Str}
    (hn : l.most = some n) (hn2 : n ≤ sizeLine) (hdf : d.params.defaults = []) (hr : Room k callerA)
    (F : ∀ (w : World) (mg : Str → Option Value) (f : Addr) (h : Heap), YP w h → h.Ns mainGlobals mg → mg d.name = some (.ref f) →
      ∃ (K : Frag) (fd : FuncData) (sp : Sp), noList K = true ∧ K.In h ∧ (∀ (s : Shared) (u : Value), BindsTo s fd ⟨[u], []⟩ [(x, u)]) ∧
        (∀ (H : Hp) (a : Addr) (ns : List Int), ns.length ≤ n → Only H → SqL K H a (ns.map V.int) → sp [.ref a] H (fun v _ => v = .bl true) fun _ _ _ => False) ∧
        ∀ base : Heap, K.In base → base.Ns mainGlobals mg → FnG l.prog w K mg base (L2.CX l.prog w) k f fd [x] sp) :
    PySem.W.WalkO q loose XP YP l.row.toRowW d [] (fun f vs => PySem.call f vs) := by
  refine Att.attach_call hn hdf ?_
  intro w sA sB mg mb f o pm cd doc a vs ns G Y ho hd hcd hmg hobj hints hlen hgn
  have z := F w mg f _ Y G.T.g hmg
  obtain ⟨K, fd, sp, nl, hK, bind, told, keeps⟩ := z
  exact law_G nl hK G.T.g G.T.b G.T.builtins G.T.nolimit hgn hobj hints (Nat.le_trans hlen hn2) hr keeps bind fun H only sq => told H a ns hlen only sq
end Lad
end
section
set_option maxRecDepth 100000
set_option maxHeartbeats 1000000
namespace L2
open PySem PySem.Spec PyProof.Rows GenW
/-- the heap below n -/
def below (n : Nat) (h : Heap) : Heap := ⟨h.objs.take n, h.life⟩
theorem take_get (n : Nat) (A : Array Obj) (b : Nat) : (A.take n)[b]? = if b < n then A[b]? else none := by
  unfold Array.take
  rw [Array.getElem?_extract, Nat.sub_zero, Nat.zero_add]
  by_cases hb : b < n
  · rw [if_pos hb]
    by_cases hs : b < A.size
    · rw [if_pos (by omega)]
    · rw [if_neg (by omega), Array.getElem?_eq_none (by omega)]
  · rw [if_neg hb, if_neg (by omega)]
theorem below_get {n : Nat} {h : Heap} {b : Addr} (hb : b < n) : (below n h).get? b = h.get? b := by
  have z : (h.objs.take n)[b]? = h.objs[b]? := (take_get n h.objs b).trans (if_pos hb)
  unfold below Heap.get?
  dsimp only
  rw [z]
theorem of_below {n : Nat} {h : Heap} {b : Addr} {o : Obj} (e : (below n h).get? b = some o) : b < n ∧ h.get? b = some o := by
  by_cases hb : b < n
  · exact ⟨hb, (below_get hb).symm.trans e⟩
  · exfalso
    have z : (h.objs.take n)[b]? = none := (take_get n h.objs b).trans (if_neg hb)
    unfold below Heap.get? at e
    dsimp only at e
    rw [z] at e
    cases e
theorem below_size {n : Nat} {h : Heap} (hn : n ≤ h.objs.size) : (below n h).objs.size = n := by
  show (h.objs.take n).size = n
  simp; omega
def cutN (n : Nat) (s : Shared) : Shared := { s with heap := below n s.heap }
/-- a generator's frame: what stays the same through all its stretches -/
structure Fm where
  P : Program
  w : World
  K : PySem.W.Frag
  mg : Str → Option Value
  base : Heap
  N : List Str
  qual : Str
  scope : Scope
  f : Addr
  cd : Value
  A : Around
  outer : List Env
  n0 : Nat
  a : Addr
  go : Obj
variable {F : Fm}
abbrev Fm.M (F : Fm) : Model := model F.P F.w
/-- the context of a stretch that began in s, H -/
abbrev Fm.X (F : Fm) (s : Shared) (H : Hp) (E : XK) : Cx := gcxOf F.P F.w F.K F.mg F.base F.N F.qual F.scope F.f F.cd F.A F.outer (cutN F.n0 s) H E [(F.a, F.go)]
abbrev Fm.env (F : Fm) : Env := envOfC F.qual F.scope F.n0 F.f F.cd
theorem Fm.envE {s : Shared} {H : Hp} {E : XK} (h : F.n0 ≤ s.heap.objs.size) : (F.X s H E).env = F.env := by
  show envOfC F.qual F.scope (below F.n0 s.heap).objs.size F.f F.cd = _
  rw [below_size h]
/-- what is known of the frame for ever -/
structure Fm.Ok (F : Fm) : Prop where
  hd : F.A.handled = none
  fr : F.A.frames = some F.outer
  mod : Mod F.K F.mg F.base
  bsz : F.base.objs.size ≤ F.n0
  kind : F.scope.kind = .function
  cells : ∀ x, F.env.cells.lookup x = none
  nocell : ∀ x, F.scope.names.lookup x ≠ some .cell ∧ F.scope.names.lookup x ≠ some .free
  lt : ∀ b ∈ frs F.outer, b < F.n0
  an : F.n0 < F.a
  gd : ∀ v, F.go.data ≠ .cell v
/-- the state in which it is woken -/
structure Bas (F : Fm) (s : Shared) (H : Hp) : Prop where
  sz : F.n0 ≤ s.heap.objs.size
  bs : ∀ b o, F.base.get? b = some o → s.heap.get? b = some o ∧ H b = none
  funs : s.heap.FunFrames F.base F.outer
  frf : ∀ b ∈ frs F.outer, H b = none
  hok : HOk F.P F.w H s.heap
  bare : AllBare s.gens
theorem funs_below {n : Nat} {h base : Heap} : ∀ {l : List Env}, (∀ b ∈ frs l, b < n) → h.FunFrames base l → (below n h).FunFrames base l
  | [], _, _ => trivial
  | env :: r, hl, ⟨hk, ⟨L, o, hf, hn, ho, hd⟩, hr⟩ => by
    refine ⟨hk, ⟨L, o, hf, hn, ?_, hd⟩, funs_below (fun b hb => hl b ?_) hr⟩
    · rw [below_get (hl L (by unfold frs; rw [List.filterMap_cons, hf]; exact List.mem_cons_self))]; exact ho
    · unfold frs at hb ⊢
      rw [List.filterMap_cons]
      cases env.frame with
      | none => exact hb
      | some x => exact List.mem_cons_of_mem _ hb
theorem Bas.ok (fo : F.Ok) {s : Shared} {H : Hp} {E : XK} (b : Bas F s H) : (F.X s H E).Ok := by
  have he : (F.X s H E).env = F.env := Fm.envE b.sz
  have hs : (below F.n0 s.heap).objs.size = F.n0 := below_size b.sz
  have cl : ∀ x c, (F.X s H E).env.cells.lookup x = some c → False := fun x c e => by
    rw [he] at e
    rw [fo.cells x] at e
    cases e
  have nf : ∀ x : Addr, x ∉ ([] : List Addr) := fun x => by simp
  refine ⟨fo.mod, fo.kind, rfl, rfl, Nat.le_refl _, fun x y c h => (cl x c h).elim, fun x hx => ?_, fun x c _ h => (cl x c h).elim, fun _ => fo.hd, Around.frames_deeper fo.fr, .inr ⟨rfl, rfl⟩, fun b z => absurd z (nf b), fun c o e => ?_, ?_, fun b _ _ => nf b, fun b z => absurd z (nf b), ?_, b.frf⟩
  · rcases hx with h | h
    · exact absurd h (fo.nocell x).1
    · exact absurd h (fo.nocell x).2
  · obtain ⟨h1, h2⟩ := b.bs c o e
    refine ⟨?_, h2⟩
    show (below F.n0 s.heap).get? c = some o
    rw [below_get (Nat.lt_of_lt_of_le (Heap.lt_size e) fo.bsz)]
    exact h1
  · show F.base.objs.size ≤ (below F.n0 s.heap).objs.size
    rw [hs]; exact fo.bsz
  · exact funs_below fo.lt b.funs
/-- behind a stretch -/
structure Leave (F : Fm) (s₀ : Shared) (H0 H1 : Hp) (s1 : Shared) : Prop where
  os : s1.os = s₀.os
  bare : AllBare s1.gens
  un : Un (frs F.outer) [] H0 H1 (below F.n0 s₀.heap) s1.heap
  hok : HOk F.P F.w H1 s1.heap
  lim : s1.heap.NoLimit
/-- the generator's own things -/
def Priv (F : Fm) (gp : List (Addr × Obj)) (H : Hp) (s : Shared) : Prop := ∀ p ∈ gp, s.heap.get? p.1 = some p.2 ∧ H p.1 = none ∧ F.n0 ≤ p.1 ∧ ∀ v, p.2.data ≠ .cell v
theorem Inv.leave {s₀ s : Shared} {H0 H : Hp} {E : XK} {ip : List (Addr × Obj)} {σ : St} (I : Inv (F.X s₀ H0 E) ip σ H s) : Leave F s₀ H0 H s :=
  ⟨I.os, I.bare, I.base, I.hok, I.nolimit⟩
/-- all that it keeps, while it sleeps -/
theorem Inv.priv (fo : F.Ok) {s₀ s : Shared} {H0 H : Hp} {E : XK} {ip : List (Addr × Obj)} {σ : St} (b : Bas F s₀ H0) (hip : ∀ p ∈ ip, F.n0 ≤ p.1) (I : Inv (F.X s₀ H0 E) ip σ H s) :
    ∃ o, s.heap.get? F.n0 = some o ∧ Priv F ((F.a, F.go) :: (F.n0, o) :: ip) H s := by
  have he : (F.X s₀ H0 E).env.locals = F.n0 := by rw [Fm.envE b.sz]; rfl
  obtain ⟨m, ⟨o, es, ep, ho, hd, _⟩, _⟩ := I.loc
  rw [he] at ho
  refine ⟨o, ho, fun p hp => ?_⟩
  rcases List.mem_cons.mp hp with z | hp
  · subst z
    obtain ⟨h1, h2, _⟩ := I.pin (F.a, F.go) (List.mem_append_left _ (List.mem_singleton.mpr rfl))
    exact ⟨h1, h2, Nat.le_of_lt fo.an, fo.gd⟩
  · rcases List.mem_cons.mp hp with z | hp
    · subst z
      have := I.free
      rw [he] at this
      exact ⟨ho, this, Nat.le_refl _, fun v q => by rw [hd] at q; cases q⟩
    · obtain ⟨h1, h2, _, _, h5⟩ := I.pin p (List.mem_append_right _ hp)
      exact ⟨h1, h2, hip p hp, h5⟩
/-- woken: the same frame over the new state -/
theorem Inv.rebase (fo : F.Ok) {s₀ s1 s2 : Shared} {H0 H1 H2 : Hp} {E E' : XK} {ip : List (Addr × Obj)} {σ : St} {o : Obj} (b : Bas F s₀ H0) (I : Inv (F.X s₀ H0 E) ip σ H1 s1) (b2 : Bas F s2 H2) (hL : s1.heap.get? F.n0 = some o)
    (keep : ∀ p ∈ (F.a, F.go) :: (F.n0, o) :: ip, s2.heap.get? p.1 = some p.2 ∧ H2 p.1 = none) : Inv (F.X s2 H2 E') ip σ H2 s2 := by
  have he : (F.X s₀ H0 E).env = F.env := Fm.envE b.sz
  have he2 : (F.X s2 H2 E').env = F.env := Fm.envE b2.sz
  have hl : F.env.locals = F.n0 := rfl
  have kL := keep (F.n0, o) (List.mem_cons_of_mem _ List.mem_cons_self)
  have cl : ∀ x c, (F.X s2 H2 E').env.cells.lookup x = some c → False := fun x c e => by
    rw [he2, fo.cells x] at e
    cases e
  refine ⟨b2.ok fo, rfl, b2.bare, ?_, ?_, fun x c e => (cl x c e).elim, ?_, fun x c e => (cl x c e).elim, fun p hp => ?_, b2.hok, I.len⟩
  · exact Un.kept fun c ob e => (of_below e).2
  · obtain ⟨m, ⟨o', es, ep, ho, hd, r⟩, hl2⟩ := I.loc
    rw [he, hl, hL] at ho
    cases ho
    refine ⟨m, ⟨o, es, ep, ?_, hd, r⟩, fun i x v h1 h2 h3 => ?_⟩
    · rw [he2, hl]; exact kL.1
    · obtain ⟨u, r1, l⟩ := hl2 i x v h1 h2 h3
      refine ⟨u, r1, ?_⟩
      rcases l with l | ⟨_, c, e, _⟩
      · left
        rw [he] at l
        rw [he2]
        exact l
      · rw [he, fo.cells x] at e
        cases e
  · rw [he2, hl]; exact kL.2
  · have hp' : p ∈ (F.a, F.go) :: (F.n0, o) :: ip := by
      rcases List.mem_append.mp hp with z | z
      · rw [List.mem_singleton.mp z]; exact List.mem_cons_self
      · exact List.mem_cons_of_mem _ (List.mem_cons_of_mem _ z)
    obtain ⟨k1, k2⟩ := keep p hp'
    obtain ⟨_, _, h3, h4, h5⟩ := I.pin p hp
    refine ⟨k1, k2, ?_, h4, h5⟩
    rw [he2]
    rw [he] at h3
    exact h3
end L2
end
section
set_option maxRecDepth 100000
set_option maxHeartbeats 1000000
namespace L2
open PySem PySem.Spec PyProof.Rows GenW
/-- what is wanted behind a statement: k: how much is out; a: where the consumer stands; yl: what the consumer does with an item, and how it comes back -/
structure CEnds (α : Type) where
  nx : Nat → St → α → Hp → Prop
  rt : Nat → α → VK := fun _ _ _ _ => False
  bk : Nat → St → α → Hp → Prop := fun _ _ _ _ => False
  ct : Nat → St → α → Hp → Prop := fun _ _ _ _ => False
  yl : V → α → Hp → (α → Hp → Prop) → Prop
  ex : α → XK
abbrev TCo (α : Type) := CEnds α → Nat → St → α → Hp → Prop
/-- the consumer -/
structure Co (α : Type) where
  st : α → Hp → Shared → Prop
  yl : V → α → Hp → (α → Hp → Prop) → Prop
  ex : α → XK
  rt : α → Hp → Prop
section
variable {α : Type} (F : Fm) (C : Co α)
/-- an item is handed out -/
def Co.Y : Protocol := fun _ s₀ v s1 kap => ∃ a H0 H1 x gp κ, C.st a H0 s₀ ∧ RelV x v ∧ Leave F s₀ H0 H1 s1 ∧ Priv F gp H1 s1 ∧ (F.a, F.go) ∈ gp ∧ C.yl x a H1 κ ∧
  ∀ a' H2 s2, κ a' H2 → C.st a' H2 s2 → Bas F s2 H2 → (∀ p ∈ gp, s2.heap.get? p.1 = some p.2 ∧ H2 p.1 = none) → kap (.send .none) s2 ∧ kap (.send (.bool true)) s2
def Co.Fr (n : Nat) (s₀ s1 : Shared) : Prop := ∃ a H0 H1, C.st a H0 s₀ ∧ Leave F s₀ H0 H1 s1 ∧ C.rt a H1
def Co.Er (e : Value) (s1 : Shared) : Prop := ∃ a H0 s₀, C.st a H0 s₀ ∧ CX F.P F.w F.outer H0 (cutN F.n0 s₀) (C.ex a) e s1 ∧ s1.heap.get? F.a = some F.go
def Co.R : GenEnd := fun n s₀ r s1 => ((r = .ok (.ret .none) ∨ r = .ok .next) ∧ C.Fr F n s₀ s1) ∨ ∃ e, r = .error e ∧ C.Er F e s1
/-- within a stretch -/
def CI (ip : List (Addr × Obj)) (σ : St) (a : α) (H : Hp) (s₀ s : Shared) : Prop := ∃ H0, C.st a H0 s₀ ∧ Bas F s₀ H0 ∧ Inv (F.X s₀ H0 (C.ex a)) ip σ H s
/-- where its code stands -/
structure CC (ip : List (Addr × Obj)) (c : Code) (fs : List Frame) (gd : Bool → Bool) : Prop where
  ip : ∀ p ∈ ip, F.n0 ≤ p.1
  over : F.A.over c fs = F.A.deeper F.env
  split : splitAtGen fs = none
  guard : fs.any Frame.guarded = false
  gd : gd false = false
def CSP (ip : List (Addr × Obj)) (D : CEnds α) (k : Nat) (s₀ : Shared) (f : Flow) (s : Shared) : Prop :=
  match f with
  | .next => ∃ σ a H, CI F C ip σ a H s₀ s ∧ D.nx k σ a H
  | .brk => ∃ σ a H, CI F C ip σ a H s₀ s ∧ D.bk k σ a H
  | .cont => ∃ σ a H, CI F C ip σ a H s₀ s ∧ D.ct k σ a H
  | .ret u => ∃ v σ a H, CI F C ip σ a H s₀ s ∧ RelV v u ∧ D.rt k a v H
/-- what follows -/
structure CK (ip : List (Addr × Obj)) (c : Code) (fs : List Frame) (K : Flow → Sem PySem.Fin) (J : Value → Sem PySem.Fin) (D : CEnds α) : Prop where
  ok : ∀ (n k : Nat) (s₀ s : Shared) (f : Flow), n + k = sizeLine → CSP F C ip D k s₀ f s → Seg F.M F.A (C.R F) (C.Y F) n s₀ c (K f) fs s
  exc : ∀ (n : Nat) (s₀ : Shared) (a : α) (H0 : Hp) (e : Value) (s : Shared), C.st a H0 s₀ → Bas F s₀ H0 → (F.X s₀ H0 (C.ex a)).xe e s → Seg F.M F.A (C.R F) (C.Y F) n s₀ c (J e) fs s
end
structure CS (α : Type) (F : Fm) (st : Stmt) (t : TCo α) : Prop where
  run : ∀ (C : Co α) (ip : List (Addr × Obj)) (n k : Nat) (s₀ : Shared) (c : Code) (fs : List Frame) (K : Flow → Sem PySem.Fin) (J : Value → Sem PySem.Fin) (gd : Bool → Bool) (lv : List Value → List Value) (s : Shared) (σ : St) (a : α) (H : Hp) (D : CEnds α),
    D.yl = C.yl → D.ex = C.ex → CC F ip c fs gd → n + k = sizeLine → CK F C ip c fs K J D → CI F C ip σ a H s₀ s → t D k σ a H →
    Seg F.M F.A (C.R F) (C.Y F) n s₀ c ((exec st F.env).wrap K J gd lv) fs s
structure CSs (α : Type) (F : Fm) (st : List Stmt) (t : TCo α) : Prop where
  run : ∀ (C : Co α) (ip : List (Addr × Obj)) (n k : Nat) (s₀ : Shared) (c : Code) (fs : List Frame) (K : Flow → Sem PySem.Fin) (J : Value → Sem PySem.Fin) (gd : Bool → Bool) (lv : List Value → List Value) (s : Shared) (σ : St) (a : α) (H : Hp) (D : CEnds α),
    D.yl = C.yl → D.ex = C.ex → CC F ip c fs gd → n + k = sizeLine → CK F C ip c fs K J D → CI F C ip σ a H s₀ s → t D k σ a H →
    Seg F.M F.A (C.R F) (C.Y F) n s₀ c ((execs st F.env).wrap K J gd lv) fs s
section
variable {α : Type} {F : Fm} {st : Stmt} {rest : List Stmt}
def CEnds.at (D : CEnds α) (k : Nat) (a : α) : Ends := { nx := fun σ H => D.nx k σ a H, rt := fun v H => D.rt k a v H, bk := fun σ H => D.bk k σ a H, ct := fun σ H => D.ct k σ a H }
/-- a statement that hands out nothing -/
def tCPlain (t : XK → TS) : TCo α := fun D k σ a H => t (D.ex a) (D.at k a) σ H
theorem csp_of {C : Co α} {ip : List (Addr × Obj)} {D : CEnds α} {k : Nat} {s₀ s : Shared} {a : α} {H0 : Hp} {f : Flow} (h0 : C.st a H0 s₀) (b : Bas F s₀ H0) (h : SP (F.X s₀ H0 (C.ex a)) ip (D.at k a) f s) : CSP F C ip D k s₀ f s := by
  cases f with
  | next => obtain ⟨σ, H, I, q⟩ := h; exact ⟨σ, a, H, ⟨H0, h0, b, I⟩, q⟩
  | brk => obtain ⟨σ, H, I, q⟩ := h; exact ⟨σ, a, H, ⟨H0, h0, b, I⟩, q⟩
  | cont => obtain ⟨σ, H, I, q⟩ := h; exact ⟨σ, a, H, ⟨H0, h0, b, I⟩, q⟩
  | ret u => obtain ⟨v, σ, H, I, r1, q⟩ := h; exact ⟨v, σ, a, H, ⟨H0, h0, b, I⟩, r1, q⟩
/-- what is known of every stretch's context -/
def Evr (F : Fm) (p : Cx → XK → Prop) : Prop := ∀ s H E, F.n0 ≤ s.heap.objs.size → p (F.X s H E) E
theorem cs_ps {t : XK → TS} (h : Evr F fun X E => PS X st (t E)) : CS α F st (tCPlain t) := by
  refine ⟨fun C ip n k s₀ c fs K J gd lv s σ a H D ey ee g hn kk hI ht => ?_⟩
  obtain ⟨H0, h0, b, I⟩ := hI
  have he : (F.X s₀ H0 (C.ex a)).env = F.env := Fm.envE b.sz
  refine seg_wrap ?_
  rw [g.over, ← he]
  unfold tCPlain at ht
  rw [ee] at ht
  exact wpAny_mono ((h s₀ H0 (C.ex a) b.sz).run _ s σ H (D.at k a) I ht) (fun f s' hs => kk.ok n k s₀ s' f hn (csp_of h0 b hs)) fun x s' hx => kk.exc n s₀ a H0 x s' h0 b hx
def tC0 : TCo α := fun D k σ a H => D.nx k σ a H
theorem css_nil : CSs α F [] tC0 := by
  refine ⟨fun C ip n k s₀ c fs K J gd lv s σ a H D ey ee g hn kk hI ht => ?_⟩
  exact seg_execs_nil (kk.ok n k s₀ s .next hn ⟨σ, a, H, hI, ht⟩)
def tCThen (t u : TCo α) : TCo α := fun D k σ a H => t { D with nx := fun k' σ' a' H' => u D k' σ' a' H' } k σ a H
theorem css_cons {t u : TCo α} (x : CS α F st t) (y : CSs α F rest u) : CSs α F (st :: rest) (tCThen t u) := by
  refine ⟨fun C ip n k s₀ c fs K J gd lv s σ a H D ey ee g hn kk hI ht => ?_⟩
  refine seg_execs_cons ?_
  refine x.run C ip n k s₀ c fs _ J gd lv s σ a H { D with nx := fun k' σ' a' H' => u D k' σ' a' H' } ey ee g hn ⟨fun n' k' s₀' s' f hn' hs => ?_, kk.exc⟩ hI ht
  cases f with
  | next =>
    obtain ⟨σ', a', H', I', q⟩ := hs
    exact y.run C ip n' k' s₀' c fs K J gd lv s' σ' a' H' D ey ee g hn' kk I' q
  | brk => exact kk.ok n' k' s₀' s' .brk hn' hs
  | cont => exact kk.ok n' k' s₀' s' .cont hn' hs
  | ret u => exact kk.ok n' k' s₀' s' (.ret u) hn' hs
def tCYield (te : XK → TE) : TCo α := fun D k σ a H => k < sizeLine ∧ te (D.ex a) σ H fun x H1 => D.yl x a H1 fun a' H2 => D.nx (k + 1) σ a' H2
theorem cs_yield {e : Expr} {yp pos : Pos} {te : XK → TE} (fo : F.Ok) (he : Evr F fun X E => PE X e (te E)) (hco : F.env.scope.isCoroutine = false) (hi : interactive F.env = false := by rfl) : CS α F (.Expr (.Yield (some e) yp) pos) (tCYield te) := by
  refine ⟨fun C ip n k s₀ c fs K J gd lv s σ a H D ey ee g hn kk hI ht => ?_⟩
  obtain ⟨hlt, ht⟩ := ht
  rw [ee] at ht
  obtain ⟨n, rfl⟩ : ∃ m, n = m + 1 := ⟨n - 1, by omega⟩
  obtain ⟨H0, h0, b, I⟩ := hI
  have hE : (F.X s₀ H0 (C.ex a)).env = F.env := Fm.envE b.sz
  refine seg_Expr_Yield g.split g.gd g.guard ?_ hco hi
  rw [g.over, ← hE]
  refine wpAny_mono ((he s₀ H0 (C.ex a) b.sz).run _ s σ H _ I ht) (fun v s' hv => ?_) fun x s' hx => kk.exc _ s₀ a H0 x s' h0 b hx
  obtain ⟨x, H1, I1, rv, q⟩ := hv
  obtain ⟨o, ho, pr⟩ := I1.priv fo b g.ip
  rw [ey] at q
  intro kap hk
  refine ⟨a, H0, H1, x, _, _, h0, rv, I1.leave, pr, List.mem_cons_self, q, fun a' H2 s2 q2 st2 b2 kp => ?_⟩
  have go := kk.ok n (k + 1) s2 s2 .next (by omega) ⟨σ, a', H2, ⟨H2, st2, b2, I1.rebase fo b b2 ho kp⟩, q2⟩
  exact ⟨hk .none s2 go, hk (.bool true) s2 go⟩
theorem cc_loop {ip : List (Addr × Obj)} {c c' : Code} {fs : List Frame} {K : Flow → Sem PySem.Fin} {J : Value → Sem PySem.Fin} {gd : Bool → Bool} {lv : List Value → List Value} {p : Pos} (g : CC F ip c fs gd) (hw : c'.weight = 0) (hu : c'.cUnits = 0) :
    CC F ip c' (loopFr F.env K J gd lv c p :: fs) id where
  ip := g.ip
  over := (over_loop hw hu).trans g.over
  split := by
    show Option.map _ (splitAtGen fs) = none
    rw [g.split]
    rfl
  guard := by
    show (gd false || fs.any Frame.guarded) = false
    rw [g.gd, g.guard]
    rfl
  gd := rfl
theorem seg_back {C : Co α} {ip : List (Addr × Obj)} {c : Code} {fs : List Frame} {K : Flow → Sem PySem.Fin} {J : Value → Sem PySem.Fin} {gd : Bool → Bool} {lv : List Value → List Value} {D : CEnds α} {n : Nat} {s₀ s : Shared} {e : Value} {a : α} {H0 : Hp}
    (g : CC F ip c fs gd) (kk : CK F C ip c fs K J D) (h0 : C.st a H0 s₀) (b : Bas F s₀ H0) (h : cameBackBy F.M (F.A.deeper F.env) F.env (F.X s₀ H0 (C.ex a)).xe e s) :
    Seg F.M F.A (C.R F) (C.Y F) n s₀ c (((Sem.raise e : Sem Flow).onRaise (cameBack F.env)).wrap K J gd lv) fs s := by
  show Seg _ _ _ _ _ _ _ (((cameBack F.env e).bind fun _ => (Sem.raise e : Sem Flow)).wrap K J gd lv) _ _
  rw [Sem.bind_eq_wrap, Sem.wrap_wrap]
  refine seg_wrap ?_
  rw [g.over]
  exact wpAny_mono h (fun _ s' hx => kk.exc n s₀ a H0 e s' h0 b hx) fun x s' hx => kk.exc n s₀ a H0 x s' h0 b hx
/-- an exception in a loop's body -/
theorem seg_out {C : Co α} {ip : List (Addr × Obj)} {c c' : Code} {fs : List Frame} {K : Flow → Sem PySem.Fin} {J : Value → Sem PySem.Fin} {gd : Bool → Bool} {lv : List Value → List Value} {D : CEnds α} {p : Pos}
    (g : CC F ip c fs gd) (kk : CK F C ip c fs K J D) (hw : c'.weight = 0) (hu : c'.cUnits = 0) : ∀ (n : Nat) (s₀ : Shared) (a : α) (H0 : Hp) (x : Value) (s' : Shared), C.st a H0 s₀ → Bas F s₀ H0 → (F.X s₀ H0 (C.ex a)).xe x s' →
      Seg F.M F.A (C.R F) (C.Y F) n s₀ c' (noted F.env x) (loopFr F.env K J gd lv c p :: fs) s' := fun n s₀ a H0 x s' h0 b hx => by
  have hE : (F.X s₀ H0 (C.ex a)).env = F.env := Fm.envE b.sz
  have hp : PassesOwn F.M (F.A.deeper F.env) F.env (F.X s₀ H0 (C.ex a)).xe := by
    rw [← hE]
    exact owns_gcx
  unfold noted
  rw [Sem.bind_eq_wrap]
  refine seg_wrap ?_
  have ho : F.A.over c' (loopFr F.env K J gd lv c p :: fs) = F.A.deeper F.env := (over_loop hw hu).trans g.over
  rw [ho]
  refine wpAny_bind (wpAny_mono (hp x s' hx) (fun _ s'' hcb => wpAny_theTreesLotGoes ?_) fun y s'' hcb => ?_)
  · exact seg_leaf (.error x) (seg_back g kk h0 b hcb)
  · exact seg_leaf (.error y) (seg_back g kk h0 b hcb)
end
end L2
end
section
set_option maxRecDepth 100000
set_option maxHeartbeats 1000000
namespace L2
open PySem PySem.Spec PyProof.Rows GenW
section
variable {α : Type} {F : Fm}
theorem fp_at (fo : F.Ok) {s₀ : Shared} {H0 : Hp} {E : XK} {ip : List (Addr × Obj)} {H : Hp} {b : Addr} (bs : Bas F s₀ H0) (h : FpOk (F.X s₀ H0 E) ip H b) {s₁ : Shared} {H1 : Hp} {E' : XK} {H' : Hp} (bs1 : Bas F s₁ H1) (hn : H' b = none) : FpOk (F.X s₁ H1 E') ip H' b := by
  have e1 : (F.X s₀ H0 E).env = F.env := Fm.envE bs.sz
  have e2 : (F.X s₁ H1 E').env = F.env := Fm.envE bs1.sz
  obtain ⟨_, h2, h3, h4, h5, h6⟩ := h
  refine ⟨hn, ?_, h3, ?_, ?_, h6⟩
  · rw [e2]; rw [e1] at h2; exact h2
  · rcases h4 with z | z
    · exact absurd (show b ∈ ([] : List Addr) from z) (by simp)
    · right
      have z : (below F.n0 s₀.heap).objs.size ≤ b := z
      rw [below_size bs.sz] at z
      show (below F.n0 s₁.heap).objs.size ≤ b
      rw [below_size bs1.sz]
      exact z
  · rw [e2]; rw [e1] at h5; exact h5
/-- W: the invariant by the turn and a measure -/
def tCFor (wi : XK → TI) (g : XK → TG) (tb : TCo α) : TCo α := fun D k σ a H => wi (D.ex a) σ H fun J H1 => ∃ W : Nat → Nat → Nat → St → α → Hp → Prop, (∃ m, W 0 m k σ a H1) ∧ ∀ i m k σ a H, W i m k σ a H →
  (J.stop i H ∧ D.nx k σ a H) ∨ (J.go i H ∧ ∃ N : Nat → St → α → Hp → Prop, (∀ k' σ' a' H', N k' σ' a' H' → ∃ m', m' < m ∧ W (i + 1) m' k' σ' a' H') ∧ ∀ x H', J.yld i H x H' → g (D.ex a) x σ H' fun σ2 H2 => tb { D with nx := N, ct := N, bk := D.nx } k σ2 a H2)
theorem cs_for {tg iter : Expr} {body : List Stmt} {wi : XK → TI} {g : XK → TG} {tb : TCo α} {pos : Pos} (fo : F.Ok) (hi : Evr F fun X E => PI X tg iter (wi E)) (hg : Evr F fun X E => PG X tg (g E)) (hb : CSs α F body tb)
    (hs : ∀ x, foldedSetIterable iter F.env x = pure x := by intro _; rfl) : CS α F (.For tg iter body [] pos) (tCFor wi g tb) := by
  refine ⟨fun C ip n k s₀ c fs K J gd lv s σ a H D ey ee gc hn kk hI ht => ?_⟩
  refine seg_For hs ?_
  obtain ⟨H0, h0, b, I0⟩ := hI
  have hE : (F.X s₀ H0 (C.ex a)).env = F.env := Fm.envE b.sz
  unfold tCFor at ht
  rw [ee] at ht
  rw [gc.over, ← hE]
  refine wpAny_mono ((hi s₀ H0 (C.ex a) b.sz).run _ s σ H _ I0 ht) (fun v s1 h1 => ?_) fun x s' hx => kk.exc n s₀ a H0 x s' h0 b hx
  refine wpAny_mono h1 (fun itv s2 h2 p => ?_) fun x s' hx => kk.exc n s₀ a H0 x s' h0 b hx
  rw [hE]
  obtain ⟨it, fp, tn, JJ, H2, e, I2, T, st2, f2, W, ⟨m0, w0⟩, turn⟩ := h2
  subst e
  have gl : CC F ip (.forLoop tg (.ref it) body [] F.env) (loopFr F.env K J gd lv c p :: fs) id := cc_loop gc rfl rfl
  have out := seg_out (c' := .forLoop tg (.ref it) body [] F.env) (p := p) (lv := lv) gc kk rfl rfl
  have yg : ∀ x ∈ fp, F.n0 ≤ x := fun x hx => by
    obtain ⟨_, _, _, z, _⟩ := f2 x hx
    rcases z with z | z
    · exact absurd (show x ∈ ([] : List Addr) from z) (by simp)
    · have z : (below F.n0 s₀.heap).objs.size ≤ x := z
      rw [below_size b.sz] at z
      exact z
  have loop : ∀ (m i n k : Nat) (s₁ s : Shared) (σ : St) (a : α) (H : Hp), n + k = sizeLine → W i m k σ a H → CI F C ip σ a H s₁ s → tn i s.heap → (∀ x ∈ fp, H x = none) →
      Seg F.M F.A (C.R F) (C.Y F) n s₁ (.forLoop tg (.ref it) body [] F.env) (F.M.den (.forLoop tg (.ref it) body [] F.env)) (loopFr F.env K J gd lv c p :: fs) s := by
    intro m
    induction m using Nat.strongRecOn with
    | ind m ih =>
      intro i n k s₁ s σ a H hn w hI st fr
      obtain ⟨H1, h1, b1, I⟩ := hI
      have hE1 : (F.X s₁ H1 (C.ex a)).env = F.env := Fm.envE b1.sz
      have calm : (F.X s₁ H1 (C.ex a)).calm = true := rfl
      have stat : ∀ {H' : Hp}, (∀ x ∈ fp, H' x = none) → ∀ x ∈ fp, FpOk (F.X s₁ H1 (C.ex a)) ip H' x := fun hn x hx => fp_at fo b (f2 x hx) b1 (hn x hx)
      refine seg_forLoop (P := (F.X s₁ H1 (C.ex a)).xe) (fun x s' hx => out n s₁ a H1 x s' h1 b1 hx) ?_
      rw [gl.over, ← hE1]
      rcases turn i m k σ a H w with ⟨stop, qn⟩ | ⟨go, N, hN, step⟩
      · refine wpAny_mono (T.done (F.X s₁ H1 (C.ex a)) rfl rfl rfl calm i _ s σ H (F.X s₁ H1 (C.ex a)).xe I (stat fr) st stop) (fun r' s4 ⟨hr, I4⟩ => ?_) fun _ _ hx => hx
        subst hr
        exact seg_leaf (.ok .next) (kk.ok n k s₁ s4 .next hn ⟨σ, a, H, ⟨H1, h1, b1, I4⟩, qn⟩)
      · refine wpAny_mono (T.item (F.X s₁ H1 (C.ex a)) rfl rfl rfl calm i _ s σ H (F.X s₁ H1 (C.ex a)).xe I (stat fr) st go) (fun r' s4 ⟨u, hr, h4⟩ => ?_) fun _ _ hx => hx
        subst hr
        refine wpAny_mono h4 (fun _ s5 ⟨x, H5, I5, r5, y5, st5, fr5⟩ => ?_) fun _ _ hx => hx
        have I5' := I5.pinned (stat fr5) (T.obj _ _ st5)
        refine wpAny_mono ((hg s₁ H1 (C.ex a) b1.sz).run _ s5 σ H5 x u _ I5' r5 (step x H5 y5)) (fun _ s6 ⟨σ6, H6, I6, q6⟩ => ?_) fun _ _ hx => hx
        have gl2 : CC F (ip ++ pinsAt fp s5.heap) (.forLoop tg (.ref it) body [] F.env) (loopFr F.env K J gd lv c p :: fs) id :=
          ⟨fun q hq => (List.mem_append.mp hq).elim (gl.ip q) fun z => yg _ (of_pinsAt z).1, gl.over, gl.split, gl.guard, gl.gd⟩
        have back : ∀ {σ7 : St} {a7 : α} {H7 : Hp} {s₇ s7 : Shared}, CI F C (ip ++ pinsAt fp s5.heap) σ7 a7 H7 s₇ s7 → CI F C ip σ7 a7 H7 s₇ s7 ∧ tn (i + 1) s7.heap ∧ ∀ x ∈ fp, H7 x = none := fun {σ7 a7 H7 s₇ s7} ⟨H8, h8, b8, I7⟩ => by
          refine ⟨⟨H8, h8, b8, I7.unpinned⟩, T.keep _ _ _ st5 fun x hx o e => (I7.pin (x, o) (List.mem_append_right _ (List.mem_append_right _ (mem_pinsAt hx e)))).1, fun x hx => ?_⟩
          obtain ⟨o, e, d⟩ := T.obj _ _ st5 x hx
          exact (I7.pin (x, o) (List.mem_append_right _ (List.mem_append_right _ (mem_pinsAt hx e)))).2.1
        rw [hE1]
        refine hb.run C (ip ++ pinsAt fp s5.heap) n k s₁ _ _ _ _ id id s6 σ6 a H6 { D with nx := N, ct := N, bk := D.nx, ex := C.ex } ey rfl gl2 hn ⟨fun n' k' s₁' s7 f hn' hs' => ?_, fun n' s₁' a' H1' x s7 q1 q2 hx => out n' s₁' a' H1' x s7 q1 q2 hx⟩ ⟨H1, h1, b1, I6⟩ q6
        cases f with
        | next =>
          obtain ⟨σ7, a7, H7, I7, n7⟩ := hs'
          obtain ⟨m', hm, w7⟩ := hN k' σ7 a7 H7 n7
          obtain ⟨b1, b2, b3⟩ := back I7
          exact seg_again rfl (ih m' hm (i + 1) n' k' s₁' s7 σ7 a7 H7 hn' w7 b1 b2 b3)
        | cont =>
          obtain ⟨σ7, a7, H7, I7, n7⟩ := hs'
          obtain ⟨m', hm, w7⟩ := hN k' σ7 a7 H7 n7
          obtain ⟨b1, b2, b3⟩ := back I7
          exact seg_again rfl (ih m' hm (i + 1) n' k' s₁' s7 σ7 a7 H7 hn' w7 b1 b2 b3)
        | brk =>
          obtain ⟨σ7, a7, H7, I7, q7⟩ := hs'
          exact seg_leaf (.ok .next) (kk.ok n' k' s₁' s7 .next hn' ⟨σ7, a7, H7, (back I7).1, q7⟩)
        | ret v =>
          obtain ⟨x7, σ7, a7, H7, I7, r7, q7⟩ := hs'
          exact seg_leaf (.ok (.ret v)) (kk.ok n' k' s₁' s7 (.ret v) hn' ⟨x7, σ7, a7, H7, (back I7).1, r7, q7⟩)
  exact loop m0 0 n k s₀ s2 σ a H2 hn w0 ⟨H0, h0, b, I2⟩ st2 fun x hx => (f2 x hx).1
end
end L2
end
section
set_option maxRecDepth 100000
set_option maxHeartbeats 1000000
namespace L2
open PySem PySem.Spec PyProof.Rows GenW
/-- the def's own part of a frame -/
structure Fd where
  N : List Str
  qual : Str
  scope : Scope
  f : Addr
  cd : Value
  a : Addr
  go : Obj
def Fd.fm (d : Fd) (P : Program) (w : World) (K : PySem.W.Frag) (mg : Str → Option Value) (base : Heap) (A : Around) (outer : List Env) (n0 : Nat) : Fm := ⟨P, w, K, mg, base, d.N, d.qual, d.scope, d.f, d.cd, A, outer, n0, d.a, d.go⟩
/-- a generator's promise: arguments, where the consumer stands, the heap at the first waking, the consumer -/
abbrev SpC := List V → St → Hp → Co St → Prop
def GMadeC (P : Program) (w : World) (K : PySem.W.Frag) (mg : Str → Option Value) (base : Heap) (k : Nat) (outer : List Env) (sc : Shared) (vs : List V) (sp : SpC) (u : Value) (s' : Shared) : Prop :=
  ∃ (d : Fd) (g : Nat) (c : Code) (o : Obj), u = .ref d.a ∧ sc.heap.objs.size < d.a ∧ d.a < s'.heap.objs.size ∧ (∀ h : Heap, h.get? d.a = some d.go → h.IsGen d.a g) ∧ s'.heap.get? d.a = some d.go ∧ s'.heap.get? sc.heap.objs.size = some o ∧
    (∀ v, d.go.data ≠ .cell v) ∧ (∀ v, o.data ≠ .cell v) ∧ g < s'.gens.size ∧ s'.gens[g]? = some (.fresh c) ∧ s'.os = sc.os ∧ AllBare s'.gens ∧ s'.heap.NoLimit ∧ (∀ b ob, sc.heap.get? b = some ob → s'.heap.get? b = some ob) ∧
    ∀ (A : Around), Room k A → A.frames = some outer → (∀ b ∈ frs outer, b < sc.heap.objs.size) → (d.fm P w K mg base A outer sc.heap.objs.size).Ok ∧
      ∀ (C : Co St) (s2 : Shared) (H2 : Hp) (a : St), C.st a H2 s2 → Bas (d.fm P w K mg base A outer sc.heap.objs.size) s2 H2 → (∀ p ∈ [(d.a, d.go), (sc.heap.objs.size, o)], s2.heap.get? p.1 = some p.2 ∧ H2 p.1 = none) → sp vs a H2 C →
        Seg (model P w) A (C.R (d.fm P w K mg base A outer sc.heap.objs.size)) (C.Y (d.fm P w K mg base A outer sc.heap.objs.size)) sizeLine s2 c ((model P w).den c) [] s2
structure GFnC (P : Program) (w : World) (K : PySem.W.Frag) (mg : Str → Option Value) (base : Heap) (k : Nat) (f : Addr) (fd : FuncData) (ps : List Str) (sp : SpC) : Prop where
  run : ∀ (A : Around) (outer : List Env) (s : Shared) (H : Hp) (args : Args) (us : List Value) (vs : List V), Room k A → Env0 P w K mg base A outer s H → BindsTo s fd args (ps.zip us) → Vals vs us → vs.length = ps.length →
    codeAny (model P w) A (.call (.ref f) args) (fun r s' => match r with | .ok (.ret u) => GMadeC P w K mg base k outer s vs sp u s' | _ => False) s
theorem no_cells {n : Nat} : ∀ {names : List (Str × NameKind)}, (∀ y ∈ names, y.2 ≠ .cell) → cellsFrom n names [] = []
  | [], _ => rfl
  | (name, kind) :: r, h => by
    have h1 : (kind == NameKind.cell) = false := by
      have := h (name, kind) List.mem_cons_self
      cases kind <;> first | rfl | exact absurd rfl this
    unfold cellsFrom
    rw [h1]
    exact no_cells fun y hy => h y (List.mem_cons_of_mem _ hy)
theorem gfnC_of {P : Program} {w : World} {K : PySem.W.Frag} {mg : Str → Option Value} {base : Heap} {k : Nat} {f : Addr} {name qual : Str} {params : Arguments} {body : List Stmt} {scope : Scope} {dV kV doc pm cdv ct oc : Value} {an od : Option Addr}
    {osl : Array (Option Value)} {N ps : List Str} {sp : SpC} (lk : K.lookup f = some ⟨oc, od, .func (PySem.W.fnOf name qual params body scope dV kV doc pm an cdv ct), osl⟩) (hcd : PySem.W.codeIn K cdv qual = true) (S : GScope N ps scope) (nc : ∀ y ∈ scope.names, y.2 ≠ .cell)
    (hbody : ∀ (A : Around) (outer : List Env) (n0 : Nat) (a : Addr) (go : Obj), Room (k + 1) A → (Fm.mk P w K mg base N qual scope f cdv A outer n0 a go).Ok → ∃ t : TCo St, CSs St (Fm.mk P w K mg base N qual scope f cdv A outer n0 a go) body t ∧
      ∀ vs a H C, sp vs a H C → vs.length = ps.length → t { nx := fun _ _ a H' => C.rt a H', rt := fun _ a v H' => v = .non ∧ C.rt a H', yl := C.yl, ex := C.ex } 0 (start N vs) a H) :
    GFnC P w K mg base (k + 1) f (PySem.W.fnOf name qual params body scope dV kV doc pm an cdv ct) ps sp := by
  refine ⟨fun A outer s H args us vs hr e0 hb r hl => ?_⟩
  have KX : K.In s.heap := e0.mod.kin.keeps fun b o e => (e0.bs b o e).1
  have lim : s.heap.NoLimit := e0.mod.nolimit.keeps fun b o e => (e0.bs b o e).1
  have hkind : ∀ y ∈ ps.zip us, scope.names.lookup y.1 = some .local ∨ (scope.names.lookup y.1 = some .cell ∧ ((cellsFrom (s.heap.objs.size + 1) scope.names []).lookup y.1).isSome = true) := fun ⟨n, v⟩ hy => by
    rcases S.par n (List.of_mem_zip hy).1 with q | q
    · exact .inl q
    · exact .inr ⟨q, PySem.W.cellsFrom_some _ _ _ (.inl q)⟩
  refine codeAny_call_generator hr.depth (KX _ _ lk) rfl S.co S.gen rfl (PySem.W.codeRec_of KX hcd) (hb _ _ _ _ ?_)
  refine wpAny_newFunctionEnv_cells S.kind hkind fun env he s1 x => ?_
  subst he
  have lim1 : s1.heap.NoLimit := lim.keeps x.toInCall.keep
  refine ⟨lim1, ?_⟩
  obtain ⟨h1, tk, es1, hk1⟩ := x.done
  have os1 : s1.os = s.os := by rw [es1]
  have gen1 : s1.gens = s.gens := by rw [es1]
  have lt1 : s.heap.objs.size < s1.heap.objs.size := x.toInCall.ns.lt
  have kp1 : ∀ b o, s.heap.get? b = some o → s1.heap.get? b = some o := x.toInCall.keep
  have made : ∀ (go : Obj) (nm qn : Value) (tk2 : Nat), go.cls = .type "generator" → go.data = .fields #[.int s1.gens.size 0, nm, qn] → go.slots = #[] → (∀ h : Heap, (h.push go).get? h.objs.size = some go) →
      GMadeC P w K mg base (k + 1) outer s vs sp (.ref s1.heap.objs.size) { s1 with gens := s1.gens.push (.fresh (.func body (envOfC qual scope s.heap.objs.size f cdv))), toks := tk2, heap := s1.heap.push go } := by
    intro go nm qn tk2 hgc hgd0 hgs hgp
    have I0 : ∀ (A2 : Around), A2.frames = some outer → A2.handled = none → Inv (gcxOf P w K mg base N qual scope f cdv A2 outer s H (fun _ _ _ => False) []) [] (start N vs) H s1 := fun A2 h1 h2 =>
      inv_startG S h2 ⟨h1, e0.mod, e0.bs, e0.bsz, e0.funs, e0.frf, e0.hok, e0.bare⟩ hl r x
    obtain ⟨m, ⟨oL, es, ep, hoL, hdL, hrL⟩, _⟩ := (I0 A e0.frames hr.hd).loc
    have gdg : ∀ v, go.data ≠ .cell v := fun v q => by rw [hgd0] at q; cases q
    refine ⟨⟨N, qual, scope, f, cdv, s1.heap.objs.size, go⟩, s1.gens.size, _, oL, rfl, lt1, ?_, fun h e => ⟨go, nm, qn, e, hgc, hgd0, hgs⟩, hgp _, Heap.get?_push_of_some _ hoL, gdg, (fun v q => by rw [hdL] at q; cases q), ?_, Array.getElem?_push_size .., os1, ?_, lim1.keeps fun b o e => Heap.get?_push_of_some _ e, fun b o e => Heap.get?_push_of_some _ (kp1 b o e), fun A2 hr2 hf2 hlt => ?_⟩
    · show _ < (s1.heap.push _).objs.size
      rw [Heap.size_push]; exact Nat.lt_succ_self _
    · show _ < (s1.gens.push _).size
      rw [Array.size_push]; exact Nat.lt_succ_self _
    · exact AllBare.push (by rw [gen1]; exact e0.bare) rfl
    · have hcl : ∀ n : Nat, cellsFrom n scope.names [] = [] := fun n => no_cells nc
      have fo : (Fd.fm ⟨N, qual, scope, f, cdv, s1.heap.objs.size, go⟩ P w K mg base A2 outer s.heap.objs.size).Ok := by
        refine ⟨hr2.hd, hf2, e0.mod, e0.bsz, S.kind, fun y => ?_, fun y => ⟨fun z => ?_, fun z => ?_⟩, hlt, lt1, gdg⟩
        · show (cellsFrom (s.heap.objs.size + 1) scope.names []).lookup y = none
          rw [hcl]; rfl
        · exact nc _ (PySem.mem_of_lookup z) rfl
        · exact S.nofree _ (PySem.mem_of_lookup z) rfl
      refine ⟨fo, fun C s2 H2 a hst bs kp hsp => ?_⟩
      obtain ⟨t, ht, hq⟩ := hbody A2 outer s.heap.objs.size s1.heap.objs.size go hr2 fo
      -- the frame as it was made, over the new state
      have I2 : Inv ((Fd.fm ⟨N, qual, scope, f, cdv, s1.heap.objs.size, go⟩ P w K mg base A2 outer s.heap.objs.size).X s2 H2 (C.ex a)) [] (start N vs) H2 s2 := by
        have I := I0 A2 hf2 hr2.hd
        have he2 : ((Fd.fm ⟨N, qual, scope, f, cdv, s1.heap.objs.size, go⟩ P w K mg base A2 outer s.heap.objs.size).X s2 H2 (C.ex a)).env = envOfC qual scope s.heap.objs.size f cdv := Fm.envE bs.sz
        have kL := kp (s.heap.objs.size, oL) (List.mem_cons_of_mem _ List.mem_cons_self)
        have cl : ∀ x c, ((Fd.fm ⟨N, qual, scope, f, cdv, s1.heap.objs.size, go⟩ P w K mg base A2 outer s.heap.objs.size).X s2 H2 (C.ex a)).env.cells.lookup x = some c → False := fun x c e => by
          rw [he2] at e
          have e : (cellsFrom (s.heap.objs.size + 1) scope.names []).lookup x = some c := e
          rw [hcl] at e
          cases e
        refine ⟨bs.ok fo, rfl, bs.bare, Un.kept fun c ob e => (of_below e).2, ?_, fun x c e => (cl x c e).elim, ?_, fun x c e => (cl x c e).elim, fun p hp => ?_, bs.hok, I.len⟩
        · obtain ⟨m', ⟨o', es', ep', ho', hd', r'⟩, hl2⟩ := I.loc
          have ho' : s1.heap.get? s.heap.objs.size = some o' := ho'
          have hoL : s1.heap.get? s.heap.objs.size = some oL := hoL
          rw [hoL] at ho'
          cases ho'
          refine ⟨m', ⟨oL, es', ep', ?_, hd', r'⟩, fun i y v q1 q2 q3 => ?_⟩
          · rw [he2]; exact kL.1
          · obtain ⟨u, r1, l⟩ := hl2 i y v q1 q2 q3
            refine ⟨u, r1, ?_⟩
            rcases l with l | ⟨_, c, e, _⟩
            · left
              rw [he2]
              exact l
            · have e : (cellsFrom (s.heap.objs.size + 1) scope.names []).lookup y = some c := e
              rw [hcl] at e
              cases e
        · rw [he2]; exact kL.2
        · rcases List.mem_append.mp hp with z | z
          · rw [List.mem_singleton.mp z]
            have ka := kp (s1.heap.objs.size, go) List.mem_cons_self
            refine ⟨ka.1, ka.2, ?_, fun z => ?_, gdg⟩
            · rw [he2]
              exact Nat.ne_of_gt lt1
            · have := hlt _ z
              exact absurd (Nat.lt_trans lt1 this) (Nat.lt_irrefl _)
          · exact absurd z (by simp)
      refine seg_func ?_
      refine ht.run C [] sizeLine 0 s2 _ [] _ _ id id s2 (start N vs) a H2 _ rfl rfl ⟨fun p hp => (by simp at hp), over_func, rfl, rfl, rfl⟩ (Nat.add_zero _) ⟨fun n k' s₀ s' fl hn hs => ?_, fun n s₀ a' H0 e s' h0 b hx => ?_⟩ ⟨H2, hst, bs, I2⟩ (hq vs a H2 C hsp hl)
      · cases fl with
        | next =>
          obtain ⟨σ', a', H', ⟨H0, h0, b, I'⟩, hQ⟩ := hs
          exact seg_end (.ok (.ret .none)) (.inl ⟨.inl rfl, a', H0, H', h0, I'.leave, hQ⟩)
        | brk => obtain ⟨_, _, _, _, q⟩ := hs; exact False.elim q
        | cont => obtain ⟨_, _, _, _, q⟩ := hs; exact False.elim q
        | ret u =>
          obtain ⟨v, σ', a', H', ⟨H0, h0, b, I'⟩, rv, ev, hQ⟩ := hs
          subst ev
          have eu : u = Value.none := rv
          subst eu
          exact seg_end (.ok (.ret .none)) (.inl ⟨.inl rfl, a', H0, H', h0, I'.leave, hQ⟩)
      · refine seg_wrap ?_
        rw [over_func]
        have hx' := hx
        have he3 : ((Fd.fm ⟨N, qual, scope, f, cdv, s1.heap.objs.size, go⟩ P w K mg base A2 outer s.heap.objs.size).X s₀ H0 (C.ex a')).env = envOfC qual scope s.heap.objs.size f cdv := Fm.envE b.sz
        have hx2 : wpAny (model P w) (A2.deeper (envOfC qual scope (below s.heap.objs.size s₀.heap).objs.size f cdv)) (leaving (envOfC qual scope (below s.heap.objs.size s₀.heap).objs.size f cdv) e) (fun _ s'' => CX P w outer H0 (cutN s.heap.objs.size s₀) (C.ex a') e s'' ∧ ∀ p ∈ [(s1.heap.objs.size, go)], s''.heap.get? p.1 = some p.2) (fun _ _ => False) s' := hx
        rw [below_size (show s.heap.objs.size ≤ s₀.heap.objs.size from b.sz)] at hx2
        refine wpAny_mono hx2 (fun _ s'' q => ?_) fun _ s'' q => q.elim
        exact seg_end (.error e) (.inr ⟨e, rfl, a', H0, s₀, h0, q.1, q.2 _ (List.mem_singleton.mpr rfl)⟩)
  exact made _ _ _ _ rfl rfl rfl fun h => Heap.get?_push_size _ rfl
end L2
end
section
set_option maxRecDepth 100000
set_option maxHeartbeats 1000000
namespace L2
open PySem PySem.Spec PyProof.Rows GenW
theorem inv_blind {X : Cx} {pins : List (Addr × Obj)} {σ : St} {H : Hp} {s : Shared} (I : Inv X pins σ H s) : Inv X pins σ H (blindS s) :=
  ⟨I.ok, I.os, blindS_bare I.bare, I.base, I.loc, I.cell, I.free, I.freeC, I.pin, I.hok, I.len⟩
theorem inv_gens {X : Cx} {pins : List (Addr × Obj)} {σ : St} {H : Hp} {s : Shared} {G : Array GenState} (I : Inv X pins σ H s) (h : AllBare G) : Inv X pins σ H { s with gens := G } :=
  ⟨I.ok, I.os, h, I.base, I.loc, I.cell, I.free, I.freeC, I.pin, I.hok, I.len⟩
/-- all that the consumer leans on is older than n -/
structure Old (X : Cx) (pins : List (Addr × Obj)) (n : Nat) : Prop where
  sz : X.s_0.heap.objs.size ≤ n
  loc : X.env.locals < n
  cell : ∀ x c, X.env.cells.lookup x = some c → c < n
  pin : ∀ p ∈ X.pn ++ pins, p.1 < n
theorem Inv.old {X : Cx} {pins : List (Addr × Obj)} {σ : St} {H : Hp} {s : Shared} (I : Inv X pins σ H s) : Old X pins s.heap.objs.size :=
  ⟨I.sz, I.lt, fun x c e => let ⟨_, q⟩ := I.cell x c e; q.lt, fun p hp => Heap.lt_size (I.pin p hp).1⟩
def yng (n : Nat) (s : Shared) : List Addr := (List.range s.heap.objs.size).filter fun b => decide (n ≤ b)
theorem not_yng {n : Nat} {s : Shared} {b : Addr} {o : Obj} (h : b ∉ yng n s) (e : s.heap.get? b = some o) : b < n := by
  by_cases hb : b < n
  · exact hb
  · exact absurd (List.mem_filter.mpr ⟨List.mem_range.mpr (Heap.lt_size e), decide_eq_true (Nat.le_of_not_lt hb)⟩) h
theorem of_yng {n : Nat} {s : Shared} {b : Addr} (h : b ∈ yng n s) : n ≤ b := of_decide_eq_true (List.mem_filter.mp h).2
theorem Old.ch {X : Cx} {pins : List (Addr × Obj)} {n : Nat} (o : Old X pins n) {s : Shared} : ∀ b ∈ yng n s, (b ∈ X.ex ∨ X.s_0.heap.objs.size ≤ b) ∧ b ≠ X.env.locals ∧ (∀ x c, X.env.cells.lookup x = some c → c ≠ b) ∧ ∀ p ∈ X.pn ++ pins, p.1 ≠ b := fun b hb =>
  have hn := of_yng hb
  ⟨.inr (Nat.le_trans o.sz hn), Nat.ne_of_gt (Nat.lt_of_lt_of_le o.loc hn), fun x c e => Nat.ne_of_lt (Nat.lt_of_lt_of_le (o.cell x c e) hn), fun p hp => Nat.ne_of_lt (Nat.lt_of_lt_of_le (o.pin p hp) hn)⟩
/-- behind a stretch of another's -/
theorem Inv.seg {X : Cx} {pins : List (Addr × Obj)} {σ : St} {H H1 : Hp} {s s1 : Shared} {n : Nat} (I : Inv X pins σ H s) (ol : Old X pins n) (os : s1.os = s.os) (bare : AllBare s1.gens) (un : Un (frs X.stack) [] H H1 (below n s.heap) s1.heap) (hok : HOk X.prog X.w H1 s1.heap) : Inv X pins σ H1 s1 := by
  have bl : ∀ {b : Addr} {o : Obj}, b ∉ yng n s → s.heap.get? b = some o → (below n s.heap).get? b = some o := fun {b o} h e => by
    rw [below_get (not_yng h e)]; exact e
  have nx : ∀ b : Addr, b ∉ ([] : List Addr) := fun b => by simp
  refine I.call' (ch := yng n s) os ⟨fun b o e q hf hc => ?_, fun b o e q hf hc => ?_, fun b o e q hc => ?_, fun b o e hc => ?_, un.tups, un.frzs, un.tbls⟩ hok bare ol.ch
  · exact un.keep b o (bl hc e) q hf (nx b)
  · exact un.slot b o (bl hc e) q hf (nx b)
  · exact un.free b o (bl hc e) q (nx b)
  · exact un.there b o (bl hc e) (nx b)
/-- an exception that left another's stretch is in our air -/
theorem XE.of_seg {X : Cx} {pins : List (Addr × Obj)} {σ : St} {H : Hp} {s s' : Shared} {n : Nat} {W : WX} {E : XK} (I : Inv X pins σ H s) (ol : Old X pins n) (hW : ∀ cls d H', E cls d H' → W cls d σ H') {u : Value} (c : CX X.prog X.w X.stack H (cutN n s) E u s') : XE X W u s' := by
  obtain ⟨a, B, H', cls, d, rfl, fl, hok, ub, na, os, ag, hE⟩ := c
  obtain ⟨G, g1, g2⟩ := restrict s'.heap fun b => (B.get? b).isSome || decide (b ∈ frs X.stack)
  have inB : ∀ {b : Addr} {o : Obj}, B.get? b = some o → G.get? b = some o := fun {b o} e => by
    rw [g1 b (by simp [e])]
    exact fl.1 b o e
  have inF : ∀ {b : Addr}, b ∈ frs X.stack → G.get? b = s'.heap.get? b := fun {b} hb => g1 b (by simp [hb])
  have out : ∀ {b : Addr} {o : Obj}, G.get? b = some o → s'.heap.get? b = some o ∧ ((B.get? b).isSome = true ∨ b ∈ frs X.stack) := fun {b o} e => by
    cases q : ((B.get? b).isSome || decide (b ∈ frs X.stack)) with
    | false =>
      rw [g2 b q] at e
      cases e
    | true =>
      rw [g1 b q] at e
      exact ⟨e, by simpa [Bool.or_eq_true] using q⟩
  have bl : ∀ {b : Addr} {o : Obj}, b ∉ yng n s → s.heap.get? b = some o → (below n s.heap).get? b = some o := fun {b o} h e => by
    rw [below_get (not_yng h e)]
    exact e
  have J : Inv X pins σ H' { s with heap := G, gens := s'.gens, drawn := s'.drawn, toks := s'.toks } := by
    refine I.call (ch := yng n s) ⟨fun b o e q hf hc => inB (ub.keep b o (bl hc e) q hf), fun b o e q hf hc => ?_, fun b o e q hc => ub.free b o (bl hc e) q, fun b o e hc => ?_, ub.tups, ub.frzs, ub.tbls⟩ (hok.kept fun b o e => inB e) ag ol.ch
    · obtain ⟨sl, z⟩ := ub.slot b o (bl hc e) hf
      exact ⟨sl, by rw [inF hf]; exact z⟩
    · by_cases hf : b ∈ frs X.stack
      · obtain ⟨sl, z⟩ := ub.slot b o (bl hc e) hf
        exact ⟨_, by rw [inF hf]; exact z⟩
      · obtain ⟨o', z⟩ := ub.there b o (bl hc e) hf
        exact ⟨o', inB z⟩
  refine ⟨a, B, _, pins, σ, H', cls, d, rfl, J, fun b o e hb => ?_, Heap.UpToSlots.of_keeps fun b o e => (out e).1, .inr (.inl fl), na, os, ag, hW _ _ _ hE⟩
  obtain ⟨e', h⟩ := out e
  rcases h with h | h
  · obtain ⟨o', z⟩ := Option.isSome_iff_exists.mp h
    have y := fl.1 b o' z
    rw [e'] at y
    cases y
    exact z
  · exact absurd h hb
/-- an expression whose value is a generator of a def that has not begun -/
structure PGC (X : Cx) (k : Nat) (e : Expr) (sp : SpC) (ta : TA) : Prop where
  run : ∀ (pins : List (Addr × Obj)) (s : Shared) (σ : St) (H : Hp) (Z : List V → Hp → Prop), Inv X pins σ H s → ta σ H Z →
    wpAny (model X.prog X.w) X.A (eval e X.env) (fun u s' => ∃ vs H1 sc, Inv X pins σ H1 sc ∧ GMadeC X.prog X.w X.K X.mg X.base k X.stack sc vs sp u s' ∧ Z vs H1) X.xe s
/-- what the consumer hopes of an exception that leaves the generator -/
abbrev exC (K : PySem.W.Frag) (W : WX) : St → XK := fun σ cls d H => W cls d σ H ∧ PySem.W.subIn K cls (.type "StopIteration") = some false
def tForC (K : PySem.W.Frag) (W : WX) (sp : SpC) (ta : TA) (g : TG) (tb : TS) : TS := fun D σ H => ta σ H fun vs H1 => ∀ st : St → Hp → Shared → Prop,
  sp vs σ H1 ⟨st, fun x σ1 H2 κ => g x σ1 H2 fun σ2 H3 => tb { D with nx := κ, ct := κ, bk := D.nx } σ2 H3, exC K W, D.nx⟩
section
variable {X : Cx} {k : Nat} {tg iter : Expr} {body : List Stmt} {W : WX} {sp : SpC} {ta : TA} {g : TG} {tb : TS} {pos : Pos}
theorem ps_forC (hp : PassesOwn (model X.prog X.w) X.A X.env X.xe) (hx : XG X) (tk : Takes X W) (hr : Room (k + 1) X.A) (hc : X.calm = true) (hi : PGC X k iter sp ta) (hg : PG X tg g) (hb : PSs X body tb)
    (hs : ∀ x, foldedSetIterable iter X.env x = pure x := by intro _; rfl) : PS X (.For tg iter body [] pos) (tForC X.K W sp ta g tb) := by
  refine ⟨fun pins s σ H D I h => ?_⟩
  refine wpAny_For (thn (hi.run pins s σ H _ I h) fun u s1 made => ?_) hs
  obtain ⟨vs, H1, sc, I0, ⟨d, gn, c, oL, rfl, ha1, ha2, isg, hga, hgL, hgd, hLd, hgs1, hfresh, hos, hbare, hlim, hkeep, wake⟩, hsp⟩ := made
  have old : Old X pins sc.heap.objs.size := I0.old
  have frl : ∀ b ∈ frs X.stack, b < sc.heap.objs.size := fun b hb => by
    rcases List.mem_cons.mp (I0.stkSub b hb) with z | z
    · rw [z]; exact I0.lt
    · by_cases q : b < sc.heap.objs.size
      · exact q
      · exact absurd z (I0.nofs (Nat.le_of_not_lt q))
  have I1 : Inv X pins σ H1 s1 := I0.call' (ch := []) hos (Un.kept hkeep) (I0.hok.kept hkeep) hbare fun b z => by simp at z
  obtain ⟨fo, wake⟩ := wake X.A.in1 hr.in1 I0.ok.frames frl
  -- the generator's frame, the consumer
  generalize hF : d.fm X.prog X.w X.K X.mg X.base X.A.in1 X.stack sc.heap.objs.size = F at fo wake
  have FP : F.P = X.prog := by rw [← hF]; rfl
  have Fa : F.a = d.a := by rw [← hF]; rfl
  have Fgo : F.go = d.go := by rw [← hF]; rfl
  have Fn : F.n0 = sc.heap.objs.size := by rw [← hF]; rfl
  have Fo : F.outer = X.stack := by rw [← hF]; rfl
  have Fw : F.w = X.w := by rw [← hF]; rfl
  have Fb : F.base = X.base := by rw [← hF]; rfl
  let C : Co St := ⟨fun σ1 H2 s2 => Inv X pins σ1 H2 s2, fun x σ1 H2 κ => g x σ1 H2 fun σ2 H3 => tb { D with nx := κ, ct := κ, bk := D.nx } σ2 H3, exC X.K W, D.nx⟩
  -- it may be woken
  have bas : ∀ {σ2 : St} {H2 : Hp} {s2 : Shared}, Inv X pins σ2 H2 s2 → s2.heap.get? d.a = some d.go → Bas F s2 H2 := fun {σ2 H2 s2} J q => by
    refine ⟨?_, fun b o e => ?_, ?_, ?_, ?_, J.bare⟩
    · rw [Fn]
      exact Nat.le_of_lt (Nat.lt_trans ha1 (Heap.lt_size q))
    · rw [Fb] at e
      exact J.bs b o e
    · rw [Fb, Fo]; exact J.stack
    · rw [Fo]; exact J.stkFree
    · rw [FP, Fw]; exact J.hok
  have gset : ∀ {σ2 : St} {H2 : Hp} {s2 : Shared} {x : GenState}, Inv X pins σ2 H2 s2 → x.bare = true → Inv X pins σ2 H2 (s2.setGen gn x) := fun {σ2 H2 s2 x} J hx => inv_gens J (allBare_setGen J.bare hx)
  have seg : ∀ {σ2 : St} {H2 H3 : Hp} {s₀ s2 : Shared}, Inv X pins σ2 H2 s₀ → Leave F s₀ H2 H3 s2 → Inv X pins σ2 H3 s2 := fun {σ2 H2 H3 s₀ s2} J l => by
    have un := l.un
    have hok := l.hok
    rw [Fo, Fn] at un
    rw [FP, Fw] at hok
    exact J.seg old l.os l.bare un hok
  let Rs (m : Nat) (gs : GenState) (σ2 : St) (H2 : Hp) (gp : List (Addr × Obj)) : Prop := ∀ s2, C.st σ2 H2 s2 → Bas F s2 H2 → (∀ p ∈ gp, s2.heap.get? p.1 = some p.2 ∧ H2 p.1 = none) → gs.Goes (model X.prog X.w) X.A.in1 (C.R F) (C.Y F) m (.send .none) s2
  let Jn (m : Nat) (s2 : Shared) : Prop := ∃ σ2 H2 gs gp, Inv X (pins ++ gp) σ2 H2 s2 ∧ s2.gens[gn]? = some gs ∧ (d.a, d.go) ∈ gp ∧ Rs m gs σ2 H2 gp
  refine wpAny_pyIter_gen (isg _ hga) ?_
  refine codeAny_forLoop_any Jn ?turn sizeLine ?first
  case first =>
    have fresh : ∀ b, sc.heap.objs.size ≤ b → H1 b = none ∧ b ≠ X.env.locals ∧ b ∉ X.fs := fun b hb => ⟨I0.hok.fresh hb, Nat.ne_of_gt (Nat.lt_of_lt_of_le I0.lt hb), I0.nofs hb⟩
    refine ⟨σ, H1, _, [(d.a, d.go), (sc.heap.objs.size, oL)], I1.pins_of fun p hp => ?_, hfresh, List.mem_cons_self, fun s2 q1 q2 q3 => ⟨rfl, wake C s2 H1 σ q1 q2 q3 (hsp C.st)⟩⟩
    rcases List.mem_append.mp hp with z | z
    · exact I1.pin p (List.mem_append_right _ z)
    · rcases List.mem_cons.mp z with z | z
      · subst z
        obtain ⟨f1, f2, f3⟩ := fresh d.a (Nat.le_of_lt ha1)
        exact ⟨hga, f1, f2, f3, hgd⟩
      · rw [List.mem_singleton.mp z]
        obtain ⟨f1, f2, f3⟩ := fresh sc.heap.objs.size (Nat.le_refl _)
        exact ⟨hgL, f1, f2, f3, hLd⟩
  case turn =>
    rintro m s2 ⟨σ2, H2, gs, gp, J, hgs, hin, hres⟩
    have ja : s2.heap.get? d.a = some d.go := (J.pin _ (List.mem_append_right _ (List.mem_append_right _ hin))).1
    have J0 : Inv X pins σ2 H2 (s2.setGen gn .running) := gset J.unpinned rfl
    have kp : ∀ p ∈ gp, (s2.setGen gn .running).heap.get? p.1 = some p.2 ∧ H2 p.1 = none := fun p hp => let ⟨z1, z2, _⟩ := J.pin p (List.mem_append_right _ (List.mem_append_right _ hp)); ⟨z1, z2⟩
    let Rx (v : Value) (gs' : GenState) (gp' : List (Addr × Obj)) (κ : St → Hp → Prop) : Prop := ∀ σ4 H4 s4, κ σ4 H4 → C.st σ4 H4 s4 → Bas F s4 H4 → (∀ p ∈ gp', s4.heap.get? p.1 = some p.2 ∧ H4 p.1 = none) →
      ∃ m', m = m' + 1 ∧ isSus gs' = true ∧ gs'.Goes (model X.prog X.w) X.A.in1 (C.R F) (C.Y F) m' (.send .none) s4
    let Itm (v : Value) (s3 : Shared) : Prop := ∃ x σ3 H3 gs' gp' κ, RelV x v ∧ Inv X (pins ++ gp') σ3 H3 s3 ∧ s3.gens[gn]? = some gs' ∧ (d.a, d.go) ∈ gp' ∧ C.yl x σ3 H3 κ ∧ Rx v gs' gp' κ
    let Q : Option Value → Shared → Prop := fun r s3 => match r with
      | none => ∃ σ3 H3, Inv X pins σ3 H3 s3 ∧ D.nx σ3 H3
      | some v => Itm v s3
    have ext : ∀ {gp' : List (Addr × Obj)} {σ3 : St} {H3 : Hp} {s3 : Shared}, Inv X pins σ3 H3 s3 → Priv F gp' H3 s3 → Inv X (pins ++ gp') σ3 H3 s3 := fun {gp' σ3 H3 s3} J3 pr => J3.pins_of fun p hp => by
      rcases List.mem_append.mp hp with z | z
      · exact J3.pin p (List.mem_append_right _ z)
      · obtain ⟨z1, z2, z3, z4⟩ := pr p z
        rw [Fn] at z3
        refine ⟨z1, z2, Nat.ne_of_gt (Nat.lt_of_lt_of_le I0.lt z3), I0.nofs z3, z4⟩
    have nxt : wpAny (model X.prog X.w) X.A (pyNext (.ref d.a)) Q X.xe s2 := by
      refine wpAny_gsz (n := s2.gens.size) (Nat.le_refl _) ?_
      refine next_genG (Q := fun r s3 => s2.gens.size ≤ s3.gens.size → Q r s3) (Er := C.Er F) (F := C.Fr F) (Y := C.Y F) (n := m) (J.ok.hd hc) J.nolimit hr.depth (isg _ ja) hgs (hres _ J0 (bas J0 ja) kp) (fun v s₁ gs' hb hv => ?_) (fun s₁ hf h' hk => ?_) (fun e s₁ he => ?_)
      · obtain ⟨a, H0, H3, x, gp', κ, q0, rv, lv, pr, hin', hyl, hre⟩ := hv
        have J3 : Inv X pins a H3 (s₁.setGen gn gs') := gset (seg q0 lv) hb
        intro hsz
        rw [setGen_size] at hsz
        have hsz : gn < s₁.gens.size := Nat.lt_of_lt_of_le (Array.getElem?_eq_some_iff.mp hgs).1 hsz
        rw [Fa, Fgo] at hin'
        refine ⟨x, a, H3, gs', gp', κ, rv, ext J3 pr, setGen_at hsz, hin', hyl, fun σ4 H4 s4 k1 k2 k3 k4 => ?_⟩
        obtain ⟨z, z2⟩ := hre σ4 H4 s4 k1 k2 k3 k4
        cases m with
        | zero => exact z.elim
        | succ m =>
          refine ⟨m, rfl, ?_, z⟩
          cases gs' with
          | suspended _ _ _ _ _ _ => rfl
          | fresh _ => obtain ⟨z3, _⟩ := z2; cases z3
          | running => exact z2.elim
          | finished => exact z2.elim
      · obtain ⟨a, H0, H3, q0, lv, q⟩ := hf
        have J3 : Inv X pins a H3 (s₁.setGen gn .finished) := gset (seg q0 lv) rfl
        exact fun _ => ⟨a, H3, J3.kept (t' := (s₁.setGen gn .finished).toks) hk, q⟩
      · obtain ⟨a, H0, s₀, q0, cx, hg2⟩ := he
        rw [Fa, Fgo] at hg2
        rw [FP, Fw, Fo, Fn] at cx
        have q0 : Inv X pins a H0 s₀ := q0
        refine ⟨isg _ hg2, ?_, ?_⟩
        · refine notStop_of (E := C.ex a) (fun cls dd H z => z.2) ?_ cx
          obtain ⟨b, B, H', cls, dd, _, fl, _, ub, _⟩ := cx
          refine q0.ok.mod.kin.keeps fun b' o' e' => ?_
          obtain ⟨z1, z2⟩ := q0.bs b' o' e'
          have lt := Heap.lt_size e'
          have lt2 : b' < sc.heap.objs.size := Nat.lt_of_lt_of_le lt (Nat.le_trans I0.ok.bsz I0.sz)
          refine fl.1 b' o' (ub.keep b' o' (by show (below _ _).get? b' = _; rw [below_get lt2]; exact z1) z2 fun hm => ?_)
          rcases List.mem_cons.mp (q0.stkSub b' hm) with z | z
          · rw [z] at lt
            exact absurd (Nat.lt_of_lt_of_le lt (Nat.le_trans q0.ok.bsz q0.ok.above)) (Nat.lt_irrefl _)
          · exact q0.ok.nofr e' z
        · have xe : XE X W e s₁ := XE.of_seg q0 old (fun cls dd H z => z.1) cx
          obtain ⟨b, B, sI, ps, τ, G, cls, dd, z1, z2, z3, z4, z5, z6, z7, z8, z9⟩ := xe
          exact fun _ => tk e _ ⟨b, B, sI, ps, τ, G, cls, dd, z1, z2, z3, z4, z5, z6, z7, allBare_setGen z8 rfl, z9⟩
    refine wpAny_passesOwn hp (thn nxt fun r s3 q => ?_)
    cases r with
    | none =>
      obtain ⟨σ3, H3, J3, q⟩ := q
      exact wpAny_execs_nil ⟨σ3, H3, J3, q⟩
    | some v =>
      obtain ⟨x, σ3, H3, gs', gp', κ, rv, J3, hgs3, hin', hyl, hre⟩ := q
      have ja3 : s3.heap.get? d.a = some d.go := (J3.pin _ (List.mem_append_right _ (List.mem_append_right _ hin'))).1
      obtain ⟨og, nm, qn, ho, hcl, hda, _⟩ := isg _ ja3
      refine wpAny_passesOwn hp (go_of ho hcl hda (by decide) ?_)
      refine wpAny_passesOwn hp (thn (wpAny_asleep hx (fun _ => cl_ex fun σ5 => cl_ex fun H5 => cl_and cl_inv fun J' U s' b h => h) (hg.run _ (blindS s3) σ3 H3 x v _ (inv_blind J3) rv hyl)) fun _ s5 ⟨sl5, σ5, H5, J5, q5⟩ => ?_)
      refine wpAny_passesOwn hp (thn (wpAny_asleep hx (fun _ => cl_sp) (hb.run _ (blindS s5) σ5 H5 _ (inv_blind J5) q5)) fun f s7 ⟨sl7, q7⟩ => ?_)
      have again : ∀ {σ7 : St} {H7 : Hp}, Inv X (pins ++ gp') σ7 H7 s7 → κ σ7 H7 → ∃ m', m' < m ∧ Jn m' s7 := fun {σ7 H7} J7 k7 => by
        have ja7 : s7.heap.get? d.a = some d.go := (J7.pin _ (List.mem_append_right _ (List.mem_append_right _ hin'))).1
        have kp7 : ∀ p ∈ gp', s7.heap.get? p.1 = some p.2 ∧ H7 p.1 = none := fun p hp => let ⟨z1, z2, _⟩ := J7.pin p (List.mem_append_right _ (List.mem_append_right _ hp)); ⟨z1, z2⟩
        obtain ⟨m', em, hsus, _⟩ := hre σ7 H7 s7 k7 J7.unpinned (bas J7.unpinned ja7) kp7
        have hgs7 : s7.gens[gn]? = some gs' := sl7 gn gs' (sl5 gn gs' hgs3 hsus) hsus
        refine ⟨m', by omega, σ7, H7, gs', gp', J7, hgs7, hin', fun s8 y1 y2 y3 => ?_⟩
        obtain ⟨m'', em2, _, z⟩ := hre σ7 H7 s8 k7 y1 y2 y3
        obtain rfl : m'' = m' := by omega
        exact z
      cases f with
      | next => obtain ⟨σ7, H7, J7, n7⟩ := q7; exact again J7 n7
      | cont => obtain ⟨σ7, H7, J7, n7⟩ := q7; exact again J7 n7
      | brk => obtain ⟨σ7, H7, J7, n7⟩ := q7; exact ⟨σ7, H7, J7.unpinned, n7⟩
      | ret u => obtain ⟨v7, σ7, H7, J7, r7, n7⟩ := q7; exact ⟨v7, σ7, H7, J7.unpinned, r7, n7⟩
end
end L2
end
section
set_option maxRecDepth 100000
set_option maxHeartbeats 2000000
namespace Lad
open PySem L2
inductive CRes where
  | nx (k : Nat) (e ce : En) (h : Hea) | rt (k : Nat) (ce : En) (h : Hea) | bk (k : Nat) (e ce : En) (h : Hea) | ct (k : Nat) (e ce : En) (h : Hea) | exc (c : Nat) (d : Val) (ce : En) (h : Hea) | out (r : SRes) | stuck
abbrev CB := Val → En → Hea → SRes
abbrev CF := CB → Nat → En → En → Hea → CRes
def Outs (Dc : Ends) : Ends := { nx := fun _ _ => False, rt := Dc.rt, bk := Dc.nx, ct := fun _ _ => False }
def AftC (S : Sy) (ρ : Own) (H : Hp) (r : CRes) (D : CEnds St) (Dc : Ends) (W : WX) : Prop := match r with
  | .nx k e ce h => ∀ ρ' σ' τ' H', Go S ρ H ρ' H' → Rel S ρ' h H' → ER S ρ' H' e σ' → ER S ρ' H' ce τ' → D.nx k σ' τ' H'
  | .bk k e ce h => ∀ ρ' σ' τ' H', Go S ρ H ρ' H' → Rel S ρ' h H' → ER S ρ' H' e σ' → ER S ρ' H' ce τ' → D.bk k σ' τ' H'
  | .ct k e ce h => ∀ ρ' σ' τ' H', Go S ρ H ρ' H' → Rel S ρ' h H' → ER S ρ' H' e σ' → ER S ρ' H' ce τ' → D.ct k σ' τ' H'
  | .rt k ce h => ∀ ρ' τ' H', Go S ρ H ρ' H' → Rel S ρ' h H' → ER S ρ' H' ce τ' → D.rt k τ' .non H'
  | .exc c d ce h => ∀ ρ' v τ' H' dx, Go S ρ H ρ' H' → Rel S ρ' h H' → Rep S ρ' H' d v → ER S ρ' H' ce τ' → H' dx = some (.xd [(S.fld c, v)]) → D.ex τ' (.ref (S.ca c)) (some dx) H'
  | .out r => AftS S ρ H r (Outs Dc) W
  | .stuck => False
theorem AftC.later {S : Sy} {ρ ρ1 : Own} {H H1 : Hp} {r : CRes} {D : CEnds St} {Dc : Ends} {W : WX} (a : AftC S ρ H r D Dc W) (s : Go S ρ H ρ1 H1) : AftC S ρ1 H1 r D Dc W := by
  cases r with
  | nx k e ce h => exact fun ρ' σ' τ' H' g => a ρ' σ' τ' H' (s.trans g)
  | bk k e ce h => exact fun ρ' σ' τ' H' g => a ρ' σ' τ' H' (s.trans g)
  | ct k e ce h => exact fun ρ' σ' τ' H' g => a ρ' σ' τ' H' (s.trans g)
  | rt k ce h => exact fun ρ' τ' H' g => a ρ' τ' H' (s.trans g)
  | exc c d ce h => exact fun ρ' v τ' H' dx g => a ρ' v τ' H' dx (s.trans g)
  | out r => exact AftS.later (show AftS S ρ H r (Outs Dc) W from a) s
  | stuck => exact a
/-- the callback is what the consumer does -/
def Lnk (S : Sy) (cb : CB) (D : CEnds St) (Dc : Ends) (W : WX) : Prop := ∀ (ρ : Own) (H : Hp) (x : V) (τ : St) (v : Val) (ce : En) (h : Hea) (κ : St → Hp → Prop), Rel S ρ h H → Rep S ρ H v x → ER S ρ H ce τ →
  AftS S ρ H (cb v ce h) { nx := κ, rt := Dc.rt, bk := Dc.nx, ct := κ } W → D.yl x τ H κ
def tCf (S : Sy) (cb : CB) (Dc : Ends) (W : WX) (f : CF) : TCo St := fun D k σ τ H => Lnk S cb D Dc W ∧ ∃ ρ e ce h, Rel S ρ h H ∧ ER S ρ H e σ ∧ ER S ρ H ce τ ∧ AftC S ρ H (f cb k e ce h) D Dc W
abbrev syF (T : Tb) (F : Fm) : Sy := ⟨F.K, T.ca, T.nm, T.fld, F.P, F.w, T.ex⟩
abbrev CSt (T : Tb) (F : Fm) (st : Stmt) (f : CF) : Prop := ∀ cb Dc W, CS St F st (tCf (syF T F) cb Dc W f)
abbrev CSS (T : Tb) (F : Fm) (st : List Stmt) (f : CF) : Prop := ∀ cb Dc W, CSs St F st (tCf (syF T F) cb Dc W f)
theorem _root_.L2.CS.imp {F : Fm} {st : Stmt} {t t' : TCo St} (p : CS St F st t) (i : ∀ D k σ a H, t' D k σ a H → t D k σ a H) : CS St F st t' :=
  ⟨fun C ip n k s₀ c fs K J gd lv s σ a H D ey ee g hn kk hI ht => p.run C ip n k s₀ c fs K J gd lv s σ a H D ey ee g hn kk hI (i D k σ a H ht)⟩
theorem _root_.L2.CSs.imp {F : Fm} {st : List Stmt} {t t' : TCo St} (p : CSs St F st t) (i : ∀ D k σ a H, t' D k σ a H → t D k σ a H) : CSs St F st t' :=
  ⟨fun C ip n k s₀ c fs K J gd lv s σ a H D ey ee g hn kk hI ht => p.run C ip n k s₀ c fs K J gd lv s σ a H D ey ee g hn kk hI (i D k σ a H ht)⟩
def ofC {α : Type} (r : Res α) (ce : En) (k : α → Hea → CRes) : CRes := match r with
  | .ok a h => k a h
  | .exc c d h => .exc c d ce h
  | .stuck => .stuck
/-- a statement that hands out nothing -/
def cPl (f : En → Hea → SRes) : CF := fun _ k e ce h => match f e h with
  | .nx e1 h1 => .nx k e1 ce h1
  | .rt .non h1 => .rt k ce h1
  | .rt _ _ => .stuck
  | .bk e1 h1 => .bk k e1 ce h1
  | .ct e1 h1 => .ct k e1 ce h1
  | .exc c d _ h1 => .exc c d ce h1
  | .stuck => .stuck
def cNil : CF := fun _ k e ce h => .nx k e ce h
def cSeq (f g : CF) : CF := fun cb k e ce h => match f cb k e ce h with
  | .nx k1 e1 ce1 h1 => g cb k1 e1 ce1 h1
  | r => r
def outC (k : Nat) (e : En) : SRes → CRes
  | .nx ce2 h2 => .nx (k + 1) e ce2 h2
  | .ct ce2 h2 => .nx (k + 1) e ce2 h2
  | .stuck => .stuck
  | r => .out r
def cYield (f : En → Hea → Res Val) : CF := fun cb k e ce h => if k < 16777216 then ofC (f e h) ce fun v h1 => outC k e (cb v ce h1) else .stuck
def cforG (it : Nat → Hea → Option (Option Val)) (b : Val → En → Option En) (body : CF) (cb : CB) : Nat → Nat → Nat → En → En → Hea → CRes
  | 0, _, _, _, _, _ => .stuck
  | n + 1, i, k, e, ce, h => match it i h with
    | some none => .nx k e ce h
    | some (some v) => match b v e with
      | some e1 => match body cb k e1 ce h with
        | .nx k2 e2 ce2 h2 => cforG it b body cb n (i + 1) k2 e2 ce2 h2
        | .ct k2 e2 ce2 h2 => cforG it b body cb n (i + 1) k2 e2 ce2 h2
        | .bk k2 e2 ce2 h2 => .nx k2 e2 ce2 h2
        | r => r
      | none => .stuck
    | none => .stuck
def cforL (b : Val → En → Option En) (body : CF) (cb : CB) : List Val → Nat → En → En → Hea → CRes
  | [], k, e, ce, h => .nx k e ce h
  | v :: vs, k, e, ce, h => match b v e with
    | some e1 => match body cb k e1 ce h with
      | .nx k2 e2 ce2 h2 => cforL b body cb vs k2 e2 ce2 h2
      | .ct k2 e2 ce2 h2 => cforL b body cb vs k2 e2 ce2 h2
      | .bk k2 e2 ce2 h2 => .nx k2 e2 ce2 h2
      | r => r
    | none => .stuck
theorem cforG_fix (b : Val → En → Option En) (body : CF) (cb : CB) (xs : List Val) : ∀ (m i k : Nat) (e ce : En) (h : Hea), i + m = xs.length + 1 → 0 < m → cforG (srcFix xs).item b body cb m i k e ce h = cforL b body cb (xs.drop i) k e ce h := by
  intro m
  induction m with
  | zero => intro i k e ce h hm h0; omega
  | succ m ih =>
    intro i k e ce h hm _
    unfold cforG
    rw [fix_item xs (by omega)]
    by_cases hk : i < xs.length
    · rw [List.getElem?_eq_getElem hk, List.drop_eq_getElem_cons hk]
      unfold cforL
      dsimp only
      cases b xs[i] e with
      | none => rfl
      | some e1 =>
        dsimp only
        cases body cb k e1 ce h with
        | nx k2 e2 ce2 h2 => exact ih (i + 1) k2 e2 ce2 h2 (by omega) (by omega)
        | ct k2 e2 ce2 h2 => exact ih (i + 1) k2 e2 ce2 h2 (by omega) (by omega)
        | _ => rfl
    · rw [List.getElem?_eq_none_iff.mpr (by omega), List.drop_eq_nil_of_le (by omega)]
      rfl
def crunFor (s : Src) (b : Val → En → Option En) (body : CF) (cb : CB) (k : Nat) (e ce : En) (h : Hea) : CRes := match s.fix with
  | some xs => cforL b body cb xs k e ce h
  | none => cforG s.item b body cb s.fuel 0 k e ce h
theorem crunFor_eq {s : Src} {b : Val → En → Option En} {body : CF} {cb : CB} {k : Nat} {e ce : En} {h : Hea} : crunFor s b body cb k e ce h = cforG s.item b body cb s.fuel 0 k e ce h := by
  unfold crunFor
  cases hf : s.fix with
  | none => rfl
  | some xs =>
    obtain ⟨e1, e2⟩ := s.ok xs hf
    rw [e1, e2]
    exact (cforG_fix b body cb xs (xs.length + 1) 0 k e ce h (by omega) (by omega)).symm
def cFor (src : En → Hea → Res Src) (b : Val → En → Option En) (body : CF) : CF := fun cb k e ce h => ofC (src e h) ce fun s h1 => crunFor s b body cb k e ce h1
section
variable {S : Sy} {H : Hp} {D : CEnds St} {Dc : Ends} {W : WX} {ρ : Own} {σ τ : St} {e ce : En}
theorem AftC.ofR {r : Res Val} {k : Val → Hea → CRes} (a : AftC S ρ H (ofC r ce k) D Dc W) (E : ER S ρ H e σ) (E2 : ER S ρ H ce τ) :
    Aft S ρ H r (fun v H1 => ∃ ρ1 d h1, Go S ρ H ρ1 H1 ∧ Rel S ρ1 h1 H1 ∧ Rep S ρ1 H1 d v ∧ ER S ρ1 H1 e σ ∧ ER S ρ1 H1 ce τ ∧ AftC S ρ1 H1 (k d h1) D Dc W) (D.ex τ) := by
  cases r with
  | ok d h => exact fun ρ1 v H1 s R r => ⟨ρ1, d, h, s, R, r, E.go s, E2.go s, AftC.later (r := k d h) a s⟩
  | exc c d h => exact fun ρ1 v H1 dx s R r x => a ρ1 v τ H1 dx s R r (E2.go s) x
  | stuck => exact a
theorem AftC.ofI {r : Res Src} {k : Src → Hea → CRes} (a : AftC S ρ H (ofC r ce k) D Dc W) (E : ER S ρ H e σ) (E2 : ER S ρ H ce τ) :
    AftI S ρ H r (fun J H1 => ∃ ρ1 d h1, Go S ρ H ρ1 H1 ∧ Rel S ρ1 h1 H1 ∧ JOk S ρ1 H1 J d.item ∧ ER S ρ1 H1 e σ ∧ ER S ρ1 H1 ce τ ∧ AftC S ρ1 H1 (k d h1) D Dc W) (D.ex τ) := by
  cases r with
  | ok d h => exact fun ρ1 H1 J s R r => ⟨ρ1, d, h, s, R, r, E.go s, E2.go s, AftC.later (r := k d h) a s⟩
  | exc c d h => exact fun ρ1 v H1 dx s R r x => a ρ1 v τ H1 dx s R r (E2.go s) x
  | stuck => exact a
end
/-- a wish of an exception without the frame's slots -/
abbrev WE0 (E : XK) : WX := fun c d _ H' => E c d H'
section
variable {T : Tb} {F : Fm} {tg a c : Expr} {f : En → Hea → Res Val} {fs : En → Hea → SRes} {st : Stmt} {ss s1 s2 : List Stmt} {g1 g2 : CF} {pos yp : Pos}
theorem cn_pl (p : Evr F fun X E => SSt T X (WE0 E) st fs) : CSt T F st (cPl fs) := fun cb Dc W => (cs_ps (t := fun E => tS (syF T F) (WE0 E) fs) p).imp fun D k σ τ H q => by
  obtain ⟨_, ρ, e, ce, h, R, E, E2, a⟩ := q
  refine ⟨ρ, e, h, R, E, ?_⟩
  unfold cPl at a
  revert a
  cases fs e h with
  | nx e1 h1 => exact fun a ρ' σ' H' g R' E' => a ρ' σ' τ H' g R' E' (E2.go g)
  | bk e1 h1 => exact fun a ρ' σ' H' g R' E' => a ρ' σ' τ H' g R' E' (E2.go g)
  | ct e1 h1 => exact fun a ρ' σ' H' g R' E' => a ρ' σ' τ H' g R' E' (E2.go g)
  | exc c d e1 h1 => exact fun a ρ' v σ' H' dx g R' r' E' x => a ρ' v τ H' dx g R' r' (E2.go g) x
  | stuck => exact fun a => a
  | rt d h1 =>
    cases d with
    | non =>
      intro a ρ' v H' g R' r
      cases r
      exact a ρ' τ H' g R' (E2.go g)
    | _ => exact fun a => a.elim
theorem cn_nil : CSS T F [] cNil := fun cb Dc W => css_nil.imp fun D k σ τ H q => by
  obtain ⟨_, ρ, e, ce, h, R, E, E2, a⟩ := q
  exact a ρ σ τ H .rfl R E E2
theorem cn_cons (h1 : CSt T F st g1) (h2 : CSS T F ss g2) : CSS T F (st :: ss) (cSeq g1 g2) := fun cb Dc W => (css_cons (h1 cb Dc W) (h2 cb Dc W)).imp fun D k σ τ H q => by
  obtain ⟨l, ρ, e, ce, h, R, E, E2, a⟩ := q
  refine ⟨l, ρ, e, ce, h, R, E, E2, ?_⟩
  unfold cSeq at a
  revert a
  cases g1 cb k e ce h with
  | nx k1 e1 ce1 h1 => exact fun a ρ' σ' τ' H' g R' E' E2' => ⟨l, ρ', e1, ce1, h1, R', E', E2', AftC.later (r := g2 cb k1 e1 ce1 h1) a g⟩
  | bk _ _ _ _ => exact id
  | ct _ _ _ _ => exact id
  | exc _ _ _ _ => exact id
  | rt _ _ _ => exact id
  | out _ => exact id
  | stuck => exact id
theorem cn_yield (fo : F.Ok) (ha : Evr F fun X E => SE T X (WE0 E) a f) (hco : F.env.scope.isCoroutine = false) (hi : interactive F.env = false := by rfl) : CSt T F (.Expr (.Yield (some a) yp) pos) (cYield f) := fun cb Dc W => (cs_yield fo (te := fun E => tE (syF T F) (WE0 E) f) ha hco hi).imp fun D k σ τ H q => by
  obtain ⟨l, ρ, e, ce, h, R, E, E2, a⟩ := q
  unfold cYield at a
  split at a
  · rename_i hl
    refine ⟨by rw [sizeLine_eq]; exact hl, ρ, e, h, R, E, (a.ofR E E2).mono fun v H1 ⟨ρ1, d, h1, s, R1, r, E1, E3, a1⟩ => ?_⟩
    refine l ρ1 H1 v τ d ce h1 _ R1 r E3 ?_
    revert a1
    cases cb d ce h1 with
    | nx ce2 h2 => exact fun a1 ρ' τ' H' g R' E' => a1 ρ' σ τ' H' g R' (E1.go g) E'
    | ct ce2 h2 => exact fun a1 ρ' τ' H' g R' E' => a1 ρ' σ τ' H' g R' (E1.go g) E'
    | bk ce2 h2 => exact fun a1 => a1
    | rt v2 h2 => exact fun a1 => a1
    | exc c2 d2 e2 h2 => exact fun a1 => a1
    | stuck => exact fun a1 => a1
  · exact a.elim
theorem cn_for {src : En → Hea → Res Src} {body : List Stmt} {fb : CF} {g : TG} {b : Val → En → Option En} {vs : List Nat} (fo : F.Ok) (hi : Evr F fun X E => SI T X (WE0 E) tg a src) (hg : Evr F fun X E => PG X tg g) (ok : GOk (syF T F) vs g b) (hb : CSS T F body fb)
    (hs : ∀ x, foldedSetIterable a F.env x = pure x := by intro _; rfl) : CSt T F (.For tg a body [] pos) (cFor src b fb) := fun cb Dc W => by
  refine L2.CS.imp (cs_for fo (wi := fun E => tI (syF T F) (WE0 E) src) (g := fun _ => g) hi hg (hb cb Dc W) hs) fun D k σ τ H q => ?_
  obtain ⟨l, ρ, e, ce, h, R, E, E2, a⟩ := q
  refine ⟨ρ, e, h, R, E, (a.ofI E E2).mono fun J H1 ⟨ρ1, d, h1, s, R1, j, E1, E3, a1⟩ => ?_⟩
  have a1 : AftC (syF T F) ρ1 H1 (cforG d.item b fb cb d.fuel 0 k e ce h1) D Dc W := by rw [← crunFor_eq]; exact a1
  refine ⟨fun i m k σ τ H2 => ∃ ρ2 e2 ce2 h2, Go (syF T F) ρ1 H1 ρ2 H2 ∧ Rel (syF T F) ρ2 h2 H2 ∧ ER (syF T F) ρ2 H2 e2 σ ∧ ER (syF T F) ρ2 H2 ce2 τ ∧ AftC (syF T F) ρ2 H2 (cforG d.item b fb cb m i k e2 ce2 h2) D Dc W, ⟨d.fuel, ρ1, e, ce, h1, .rfl, R1, E1, E3, a1⟩, fun i m k σ τ H2 w => ?_⟩
  obtain ⟨ρ2, e2, ce2, h2, g2, R2, E2, E4, a2⟩ := w
  cases m with
  | zero => exact a2.elim
  | succ m =>
    have jk := j ρ2 H2 h2 g2.mv R2 i
    unfold cforG at a2
    cases hit : d.item i h2 with
    | none => rw [hit] at a2; exact a2.elim
    | some o =>
      rw [hit] at a2 jk
      cases o with
      | none => exact .inl ⟨jk, a2 ρ2 σ τ H2 .rfl R2 E2 E4⟩
      | some v =>
        refine .inr ⟨jk.1, fun k' σ' τ' H' => ∃ ρ2 e2 ce2 h2, Go (syF T F) ρ1 H1 ρ2 H' ∧ Rel (syF T F) ρ2 h2 H' ∧ ER (syF T F) ρ2 H' e2 σ' ∧ ER (syF T F) ρ2 H' ce2 τ' ∧ AftC (syF T F) ρ2 H' (cforG d.item b fb cb m (i + 1) k' e2 ce2 h2) D Dc W, fun k' σ' τ' H' z => ⟨m, Nat.lt_succ_self m, z⟩, fun x H' yy => ?_⟩
        obtain ⟨g3, R3, r3⟩ := jk.2 x H' yy
        dsimp only at a2
        cases hbv : b v e2 with
        | none => rw [hbv] at a2; exact a2.elim
        | some e3 =>
          rw [hbv] at a2
          refine ok ρ2 H' h2 e2 σ v x e3 _ R3 (E2.go g3) r3 hbv fun σ3 E5 _ => ⟨l, ρ2, e3, ce2, h2, R3, E5, E4.go g3, ?_⟩
          have g4 := g2.trans g3
          have a3 := AftC.later a2 g3
          dsimp only at a3
          revert a3
          cases fb cb k e3 ce2 h2 with
          | nx k4 e4 ce4 h4 => exact fun a3 ρ4 σ4 τ4 H4 s4 R4 E4 E6 => ⟨ρ4, e4, ce4, h4, g4.trans s4, R4, E4, E6, AftC.later a3 s4⟩
          | ct k4 e4 ce4 h4 => exact fun a3 ρ4 σ4 τ4 H4 s4 R4 E4 E6 => ⟨ρ4, e4, ce4, h4, g4.trans s4, R4, E4, E6, AftC.later a3 s4⟩
          | bk _ _ _ _ => exact fun a3 => a3
          | rt _ _ _ => exact fun a3 => a3
          | exc _ _ _ _ => exact fun a3 => a3
          | out _ => exact fun a3 => a3
          | stuck => exact fun a3 => a3
end
end Lad
end
section
set_option maxRecDepth 100000
set_option maxHeartbeats 2000000
namespace Lad
open PySem L2
def runCo (np ns : Nat) (body : CF) (cb : CB) (ds : List Val) (ce : En) (h : Hea) : CRes := if ds.length = np then body cb 0 (startE ns ds) ce h else .stuck
abbrev CGn := CB → List Val → En → Hea → CRes
def endC (C : Co St) : CEnds St := { nx := fun _ _ τ H' => C.rt τ H', rt := fun _ τ v H' => v = .non ∧ C.rt τ H', yl := C.yl, ex := C.ex }
def spCo (S : Sy) (cf : CGn) : SpC := fun vs τ H C => ∃ ρ h ds ce cb Dc W, Rel S ρ h H ∧ Reps S ρ H ds vs ∧ ER S ρ H ce τ ∧ Lnk S cb (endC C) Dc W ∧ AftC S ρ H (cf cb ds ce h) (endC C) Dc W
theorem cfn_ok {P : Program} {w : World} {K : PySem.W.Frag} {mg : Str → Option Value} {base : Heap} {T : Tb} {x qual : Str} {st : Stmt} {f : Addr} {fd : FuncData} {N ps : List Str} {k : Nat} {fb : CF} (F : Fun K x qual st f fd) (Sc : GScope N ps (defScope st)) (nc : ∀ y ∈ (defScope st).names, y.2 ≠ .cell)
    (hb : ∀ (cdv : Value) (A : Around) (outer : List Env) (n0 : Nat) (a : Addr) (go : PySem.Obj), Room (k + 1) A → (Fm.mk P w K mg base N qual (defScope st) f cdv A outer n0 a go).Ok → CSS T (Fm.mk P w K mg base N qual (defScope st) f cdv A outer n0 a go) (defBody st) fb) :
    GFnC P w K mg base (k + 1) f fd ps (spCo ⟨K, T.ca, T.nm, T.fld, P, w, T.ex⟩ (runCo ps.length N.length fb)) := by
  obtain ⟨oc, od, kV, doc, pm, an, cdv, ct, osl, rfl, lk, hcd⟩ := F.ex
  refine gfnC_of lk hcd Sc nc fun A outer n0 a go hr fo => ⟨fun D k σ τ H => ∃ cb Dc W, tCf ⟨K, T.ca, T.nm, T.fld, P, w, T.ex⟩ cb Dc W fb D k σ τ H, ⟨fun C ip n k s₀ c fs K' J gd lv s σ a' H D ey ee g hn kk hI ht => ?_⟩, fun vs τ H C q hl => ?_⟩
  · obtain ⟨cb, Dc, W, ht⟩ := ht
    exact (hb cdv A outer n0 a go hr fo cb Dc W).run C ip n k s₀ c fs K' J gd lv s σ a' H D ey ee g hn kk hI ht
  · obtain ⟨ρ, h, ds, ce, cb, Dc, W, R, r, E, l, a1⟩ := q
    refine ⟨cb, Dc, W, l, ρ, startE N.length ds, ce, h, R, ?_, E, ?_⟩
    · unfold startE L2.start
      rw [← r.length]
      exact ER.start r
    · unfold runCo at a1
      rw [if_pos (by rw [r.length]; exact hl)] at a1
      exact a1
def finC (okc : Nat → Bool) : CRes → SRes
  | .nx _ _ ce h => .nx ce h
  | .rt _ ce h => .nx ce h
  | .exc c d ce h => if okc c = true then .exc c d ce h else .stuck
  | .out (.bk ce h) => .nx ce h
  | .out (.rt v h) => .rt v h
  | .out (.exc c d ce h) => .exc c d ce h
  | _ => .stuck
def cbOf (b : Val → En → Option En) (body : En → Hea → SRes) : CB := fun v ce h => match b v ce with
  | some ce1 => body ce1 h
  | none => .stuck
def sForC (okc : Nat → Bool) (np : Nat) (cf : CGn) (g : En → Hea → Res (List Val)) (b : Val → En → Option En) (body : En → Hea → SRes) : En → Hea → SRes := fun e h => ofR (g e h) e fun ds h1 => if ds.length = np then finC okc (cf (cbOf b body) ds e h1) else .stuck
section
open PySem.Spec PyProof.Rows
variable {T : Tb} {X : Cx} {W : WX} {k : Nat} {f C : Addr} {fd : FuncData} {ps : List Str} {x m : Str} {sp : SpC} {e o : Expr} {es : List Expr} {t : TA} {ta : TE} {p pos pos' apos : Pos}
theorem gen_called {pins : List (Addr × PySem.Obj)} {σ : L2.St} {H : Hp} {s : Shared} {us : List Value} {vs : List V} {E : Value → Shared → Prop} {Z : List V → Hp → Prop} (F : GFnC X.prog X.w X.K X.mg X.base k f fd ps sp) (hr : Room k X.A) (hb : Binds X.K fd ps []) (I : Inv X pins σ H s) (r : Vals vs us) (hl : vs.length = ps.length) (z : Z vs H) :
    wpAny (model X.prog X.w) X.A (call (.ref f) us) (fun u s' => ∃ vs H1 sc, Inv X pins σ H1 sc ∧ GMadeC X.prog X.w X.K X.mg X.base k X.stack sc vs sp u s' ∧ Z vs H1) E s := by
  have hl2 : (us ++ []).length = ps.length := by rw [List.append_nil, ← r.length]; exact hl
  have hb2 := hb s us I.kIn hl2
  rw [List.append_nil] at hb2
  refine wpAny_call (codeAny_mono (F.run X.A X.stack s H ⟨us, []⟩ us vs hr I.env0 hb2 r hl) fun q s' hq => ?_)
  cases q with
  | error _ => exact hq.elim
  | ok fl =>
    cases fl with
    | ret u => exact ⟨vs, H, s, I, hq, z⟩
    | _ => exact hq.elim
/-- o.m(e, ..) -/
theorem pgc_meth {pl : Sem Bool} (he : PE X o ta) (c : Cls X.K C) (hm : Meth X.K C m f) (F : GFnC X.prog X.w X.K X.mg X.base k f fd ps sp) (hr : Room k X.A) (hb : Binds X.K fd ps []) (ha : PA X (e :: es) t)
    (hst : starEach (e :: es) X.env = (false, eval e X.env) :: starEach es X.env := by rfl) (hpl : (backTo pos' (starEach es X.env)).any (·.1) = false := by rfl)
    (ht : eval (.Call (.Attribute o m apos) (e :: es) [] pos') X.env = (do
      let ov ← eval o X.env
      standAt apos.atName
      let (f, first) ← holding [ov] (getMethod ov m pl)
      callWith pos' f first (backTo pos' (starEach (e :: es) X.env)) (backToKw pos' (keywordEach [] X.env))) := by rfl) :
    PGC X k (.Call (.Attribute o m apos) (e :: es) [] pos') sp (fun σ H Z => ta σ H fun x H1 => ∃ a dx fs, x = .ref a ∧ H1 a = some (.ins C dx fs) ∧ fs.lookup m = none ∧ t σ H1 fun vs H2 => (x :: vs).length = ps.length ∧ Z (x :: vs) H2) := by
  constructor
  intro pins s σ H Z I h
  refine PySem.W.methodCall_KW (pl := pl) (wpAny_mono (he.run pins s σ H _ I h) (fun u s1 q => ?_) fun _ _ z => z) ht
  obtain ⟨v, H1, I1, rv, a, dx, fs, ev, ea, l, q⟩ := q
  subst ev
  obtain rfl : u = Value.ref a := rv
  refine getmeth_ok I1 ea c hm l ?_
  refine PySem.W.callWith_K (first := [.ref a]) (h₀ := X.base) I.ok.mod.kin hm.kp (wpAny_mono (ha.run pos' pins s1 σ H1 _ I1 q) (fun us s2 q2 => ?_) fun _ _ z => z) hst hpl
  obtain ⟨vs, H2, I2, r, hl, z⟩ := q2
  exact ⟨I2.kIn, gen_called (us := .ref a :: us) (vs := .ref a :: vs) F hr hb I2 (.cons rfl r) hl z⟩
end
section
variable {T : Tb} {X : Cx} {W : WX} {k : Nat} {f : Addr} {fd : FuncData} {ps : List Str} {x : Str} {okc : Nat → Bool} {cf : CGn} {e : Expr} {es : List Expr} {gs : En → Hea → Res (List Val)} {p pos pos2 : Pos} {tg : Expr} {body : List Stmt} {fb : En → Hea → SRes} {g : TG} {b : Val → En → Option En} {vs : List Nat}
theorem finC_ok {S : Sy} {ρ : Own} {H : Hp} {r : CRes} {D : Ends} {W : WX} {st : St → Hp → Shared → Prop} {yl : V → St → Hp → (St → Hp → Prop) → Prop} {K : PySem.W.Frag} (ok : ∀ c, okc c = true → PySem.W.subIn K (.ref (S.ca c)) (.type "StopIteration") = some false) (a : AftS S ρ H (finC okc r) D W) :
    AftC S ρ H r (endC ⟨st, yl, exC K W, D.nx⟩) D W := by
  cases r with
  | nx k e ce h => exact fun ρ' σ' τ' H' g R E E2 => a ρ' τ' H' g R E2
  | rt k ce h => exact fun ρ' τ' H' g R E2 => ⟨rfl, a ρ' τ' H' g R E2⟩
  | bk k e ce h => exact a.elim
  | ct k e ce h => exact a.elim
  | stuck => exact a.elim
  | exc c d ce h =>
    have a : AftS S ρ H (if okc c = true then SRes.exc c d ce h else .stuck) D W := a
    split at a
    · rename_i hc
      exact fun ρ' v τ' H' dx g R r E x => ⟨a ρ' v τ' H' dx g R r E x, ok c hc⟩
    · exact a.elim
  | out r =>
    cases r with
    | nx _ _ => exact a.elim
    | ct _ _ => exact a.elim
    | stuck => exact a.elim
    | bk ce h => exact a
    | rt v h => exact a
    | exc c d ce h => exact a
theorem lnk_of {S : Sy} {D : Ends} {st : St → Hp → Shared → Prop} {rt : St → Hp → Prop} {ex : St → XK} (ok : GOk S vs g b) : Lnk S (cbOf b fb) (endC ⟨st, fun x σ1 H2 κ => g x σ1 H2 fun σ2 H3 => tS S W fb { D with nx := κ, ct := κ, bk := D.nx } σ2 H3, ex, rt⟩) D W := by
  intro ρ H x τ v ce h κ R r E a
  unfold cbOf at a
  cases hb : b v ce with
  | none => rw [hb] at a; exact a.elim
  | some e1 =>
    rw [hb] at a
    exact ok ρ H h ce τ v x e1 _ R E r hb fun σ' E' _ => ⟨ρ, e1, h, R, E', a⟩
end
end Lad
end
section
set_option maxRecDepth 100000
set_option maxHeartbeats 2000000
namespace Lad
open PySem L2
def aMeth (c n : Nat) (f : En → Hea → Res Val) (g : En → Hea → Res (List Val)) : En → Hea → Res (List Val) := fun e h => match f e h with
  | .ok o h1 => (match insOf h1 o with
    | some (c', fs) => if c' = c ∧ noF fs n = true then (match g e h1 with
        | .ok ds h2 => .ok (o :: ds) h2
        | .exc c d h2 => .exc c d h2
        | .stuck => .stuck) else .stuck
    | none => .stuck)
  | .exc c d h1 => .exc c d h1
  | .stuck => .stuck
section
open PySem.Spec PyProof.Rows
variable {T : Tb} {X : Cx} {W : WX} {k c n : Nat} {f : Addr} {fd : FuncData} {ps : List Str} {m : Str} {okc : Nat → Bool} {cf : CGn} {o e : Expr} {es : List Expr} {fo : En → Hea → Res Val} {gs : En → Hea → Res (List Val)} {p pos pos2 apos : Pos} {tg : Expr} {body : List Stmt} {fb : En → Hea → SRes} {g : TG} {b : Val → En → Option En} {vs : List Nat}
theorem st_forCm (nk : NmOk T) (hn : n < 100) (hnm : T.nm n = m) (C : Cls X.K (T.ca c)) (hm : Meth X.K (T.ca c) m f) (F : GFnC X.prog X.w X.K X.mg X.base k f fd ps (spCo (sy T X) cf)) (hp : PassesOwn (model X.prog X.w) X.A X.env X.xe) (hx : XG X) (hc : X.calm = true) (hr : Room (k + 1) X.A) (hb : Binds X.K fd ps []) (tk : Takes X W) (ok : ∀ c, okc c = true → PySem.W.subIn X.K (.ref (T.ca c)) (.type "StopIteration") = some false)
    (ho : SE T X W o fo) (ha : SA T X W (e :: es) gs) (hgt : PG X tg g) (gok : GOk (sy T X) vs g b) (hbd : SSs T X W body fb) {pl : Sem Bool} (hst : starEach (e :: es) X.env = (false, eval e X.env) :: starEach es X.env := by rfl) (hpl : (backTo pos2 (starEach es X.env)).any (·.1) = false := by rfl)
    (ht : eval (.Call (.Attribute o m apos) (e :: es) [] pos2) X.env = (do
      let ov ← eval o X.env
      standAt apos.atName
      let (f, first) ← holding [ov] (getMethod ov m pl)
      callWith pos2 f first (backTo pos2 (starEach (e :: es) X.env)) (backToKw pos2 (keywordEach [] X.env))) := by rfl)
    (hs : ∀ y, foldedSetIterable (.Call (.Attribute o m apos) (e :: es) [] pos2) X.env y = pure y := by intro _; rfl) : SSt T X W (.For tg (.Call (.Attribute o m apos) (e :: es) [] pos2) body [] pos) (sForC okc ps.length cf (aMeth c n fo gs) b fb) := by
  refine PS.imp (ps_forC (W := W) hp hx tk hr hc (pgc_meth ho C hm F (hr.mono (Nat.le_succ k)) hb ha hst hpl ht) hgt hbd hs) fun D σ H q => ?_
  obtain ⟨ρ, e1, h, R, E, a⟩ := q
  unfold sForC aMeth at a
  refine ⟨ρ, e1, h, R, E, ?_⟩
  -- the object
  cases ef : fo e1 h with
  | stuck => rw [ef] at a; exact a.elim
  | exc c' d h1 => rw [ef] at a; exact fun ρ' v H' dx s R r x => a ρ' v σ H' dx s R r (E.go s) x
  | ok od h1 =>
    rw [ef] at a
    intro ρ1 ov H1 s R1 r1
    dsimp only at a
    split at a
    · rename_i c' fs hi
      obtain ⟨pa, dx, vs', rfl, hia, hfs⟩ := ins_of R1 r1 hi
      split at a
      · rename_i hcc
        obtain ⟨rfl, hno⟩ := hcc
        refine ⟨pa, dx, vs', rfl, hia, by rw [← hnm]; exact FsR.lookNo (S := sy T X) nk hn hfs hno, ρ1, e1, h1, R1, E.go s, ?_⟩
        cases eg : gs e1 h1 with
        | stuck => rw [eg] at a; exact a.elim
        | exc c2 d2 h2 => rw [eg] at a; exact fun ρ' v H' dx s2 R r x => a ρ' v σ H' dx (s.trans s2) R r ((E.go s).go s2) x
        | ok ds h2 =>
          rw [eg] at a
          intro ρ2 us H2 s2 R2 r2
          dsimp only [ofR] at a
          split at a
          · rename_i hl
            have rr : Reps (sy T X) ρ2 H2 (od :: ds) (.ref pa :: us) := .cons (r1.go s2) r2
            refine ⟨by rw [← rr.length]; exact hl, fun st => ⟨ρ2, h2, od :: ds, e1, cbOf b fb, D, W, R2, rr, (E.go s).go s2, lnk_of gok, AftC.later (finC_ok ok a) (s.trans s2)⟩⟩
          · exact a.elim
      · exact a.elim
    · exact a.elim
end
end Lad
end
section
set_option maxRecDepth 100000
set_option maxHeartbeats 2000000
namespace L2
open PySem PySem.Spec PyProof.Rows
end L2
namespace Lad
open PySem L2
/-- xs.pop() -/
def ePopL (f : En → Hea → Res Val) : En → Hea → Res Val := fun e h => (f e h).bind fun o h1 => match o with
  | .ref i => match h1[i]? with
    | some (.lst xs) => match xs[xs.length - 1]? with
      | some y => .ok y (h1.set i (.lst xs.dropLast))
      | none => .stuck
    | _ => .stuck
  | _ => .stuck
theorem Reps.dropLast {S : Sy} {ρ : Own} {H : Hp} : ∀ {ds : List Val} {vs : List V}, Reps S ρ H ds vs → Reps S ρ H ds.dropLast vs.dropLast
  | _, _, .nil => .nil
  | _, _, .cons r .nil => .nil
  | _, _, .cons r (.cons r2 t) => .cons r (Reps.dropLast (.cons r2 t))
section
variable {T : Tb} {X : Cx} {W : WX} {o a : Expr} {f g : En → Hea → Res Val} {apos cpos : Pos}
theorem se_pop (ho : SE T X W o f) (hbase : attributeBase o "pop" X.env (eval o X.env) = eval o X.env := by rfl) (hline : (apos.endLine == cpos.line) = true := by rfl) :
    SE T X W (.Call (.Attribute o "pop" apos) [] [] cpos) (ePopL f) :=
  (pe_bm0 PySem.F.plainAttrs_list PySem.F.slot_list_pop PySem.F.type_list_pop mt_pop ho hbase hline).imp fun σ H Q q => by
    obtain ⟨ρ, e, h, R, E, a⟩ := q
    unfold ePopL at a
    refine ⟨ρ, e, h, R, E, a.bind.mono fun ov H1 ⟨ρ1, od, h1, s, R1, r1, a1⟩ => ?_⟩
    split at a1
    · rename_i i
      split at a1
      · rename_i xs hx
        split at a1
        · rename_i y hy
          obtain ⟨p, rfl, ep⟩ := r1.ref_
          have ob := R1.ob _ _ _ hx ep
          cases ob with
          | @lst _ vs _ hl hr =>
            obtain ⟨v, ev, rv⟩ := hr.get hy
            refine ⟨.inl ⟨rfl, vs, .inl (.inl hl)⟩, p, vs, v, rfl, rfl, hl, by rw [← hr.length]; exact ev, ?_⟩
            have kp : Mv (sy T X) ρ1 H1 ρ1 (upd H1 p (.lst vs.dropLast)) := .put ep hl True.intro
            have R4 := R1.put (o := .lst vs.dropLast) (ob := .lst xs.dropLast) ep hl True.intro (.lst upd_same (hr.dropLast.mono kp))
            exact a1 ρ1 v _ (.put ep hl True.intro) R4 (rv.mono kp)
        · exact a1.elim
      · exact a1.elim
    · exact a1.elim
end
end Lad
end
section
set_option maxRecDepth 100000
set_option maxHeartbeats 1000000
namespace K41
open PySem L2 Lad
def b_is_whole : En → Hea → SRes := (sRet (eAnd (eUn (oIsi [.int]) (eVar 0)) (eUn oNot (eUn (oIsi [.bool]) (eVar 0)))))
def c_is_whole : List Val → Hea → Res Val := runB 1 1 b_is_whole
def b_row_at : En → Hea → SRes := (sRet (eBin oIx (eLst (lComp [2] (iSeq (eVar 0)) (gN 2) (eBin oLe (eBin oIx (eVar 2) (eC (.int 0))) (eVar 1)) (eVar 2))) (eUn oNeg (eC (.int 1)))))
def c_row_at : List Val → Hea → Res Val := runB 2 3 b_row_at
def b_is_result : En → Hea → SRes := (sRet (eAnd (eUn (oIsi [.str]) (eVar 0)) (eBin oIn (eVar 0) (eC k_RESULTS))))
def c_is_result : List Val → Hea → Res Val := runB 1 1 b_is_result
def l__law_pool_0 : En → Hea → SRes := (sIf (eAnd (eBin oGe (eVar 3) (eBin oPow (eC (.int 10)) (eC (.int 18)))) (eBin oGt (eVar 5) (eC (.int 0)))) (sSeq (sEx (eApp (eVar 4) (eBin oMod (eCB gInt (aCons (eVar 5) aNil)) (eC (.int 420)))))
  (sSet 5 (eBin oDiv (eVar 5) (eC (.int 420))))) (sSeq (sSet 7 (eBin oPow (eBin oAdd (eBin oAdd (eBin oMod (eCB gInt (aCons (eVar 3) aNil)) (eC (.int 2147483629))) (eBin oMul (eC (.int 7919)) (eVar 1))) (eC (.int 1))) (eC (.int 3))))
  (sSeq (sSet 7 (eBin oMul (eBin oAdd (eBin oMod (eCB gInt (aCons (eVar 7) aNil)) (eC (.int 2147483647))) (eBin oMul (eC (.int 104729)) (eBin oAdd (eVar 6) (eC (.int 1))))) (eBin oAdd (eVar 6) (eC (.int 3)))))
  (sSeq (sSet 7 (eBin oMod (eCB gInt (aCons (eVar 7) aNil)) (eC (.int 2147483629))))
  (sSeq (sSet 7 (eBin oMul (eBin oMod (eCB gInt (aCons (eBin oPow (eVar 7) (eC (.int 5))) aNil)) (eC (.int 2147483647))) (eC (.int 48271))))
  (sEx (eApp (eVar 4) (eBin oMod (eCB gInt (aCons (eBin oDiv (eBin oMod (eCB gInt (aCons (eVar 7) aNil)) (eC (.int 2147483629))) (eC (.int 16))) aNil)) (eC (.int 420))))))))))
def b__law_pool : En → Hea → SRes := (sSeq (sPar [3, 4] (aCons (eCB gMax2 (aCons (eCB gInt (aCons (eVar 0) aNil)) (aCons (eCB gInt (aCons (eBin oSub (eUn oNeg (eC (.int 1))) (eVar 0)) aNil)) aNil))) (aCons (eNew (lDisp aNil)) aNil)))
  (sSeq (sSet 5 (eVar 3))
  (sSeq (sFor (iRng1V (aCons (eVar 2) aNil)) (gN 6) l__law_pool_0)
  (sRet (eNew (lDisp (aCons (eVar 4) (aCons (eC (.int 0)) aNil))))))))
def c__law_pool : List Val → Hea → Res Val := runK 3 8 b__law_pool
def b__law_draw : En → Hea → SRes := (sSeq (sSet 2 (eBin oIx (eVar 0) (eC (.int 1))))
  (sSeq (sSetIx (eBin oAdd (eVar 2) (eC (.int 1))) (eVar 0) (eC (.int 1)))
  (sRet (eIf (eBin oLt (eVar 2) (eIt gLen (eBin oIx (eVar 0) (eC (.int 0))))) (eBin oMod (eCB gInt (aCons (eBin oIx (eBin oIx (eVar 0) (eC (.int 0))) (eVar 2)) aNil)) (eVar 1)) (eC (.int 0))))))
def c__law_draw : List Val → Hea → Res Val := runB 2 3 b__law_draw
def l__law_row_at_0 : En → Hea → SRes := (sIf (eBin oLe (eBin oIx (eVar 3) (eC (.int 0))) (eVar 1)) (sSet 2 (eVar 3)) sNil)
def b__law_row_at : En → Hea → SRes := (sSeq (sSet 2 (eBin oIx (eVar 0) (eC (.int 0))))
  (sSeq (sFor (iSeq (eVar 0)) (gN 3) l__law_row_at_0)
  (sRet (eVar 2))))
def c__law_row_at : List Val → Hea → Res Val := runB 2 4 b__law_row_at
def l__law_emptied_0 : En → Hea → SRes := (sEx (ePopL (eVar 0)))
def b__law_emptied : En → Hea → SRes := (sFor (iRng1V (aCons (eIt gLen (eVar 0)) aNil)) (gN 1) l__law_emptied_0)
def c__law_emptied : List Val → Hea → Res Val := runB 1 2 b__law_emptied
def b_is_integer : En → Hea → SRes := (sRet (eAnd (eCall c_is_whole (aCons (eVar 0) aNil)) (eChain oLe oLe (eVar 1) (eVar 0) (eVar 2))))
def c_is_integer : List Val → Hea → Res Val := runB 3 3 b_is_integer
def b__law_pick : En → Hea → SRes := (sRet (eBin oIx (eVar 1) (eCall c__law_draw (aCons (eVar 0) (aCons (eIt gLen (eVar 1)) aNil)))))
def c__law_pick : List Val → Hea → Res Val := runB 2 2 b__law_pick
def b__law_step : En → Hea → SRes := (sSeq (sSet 3 (eBin oIx (eCall c__law_row_at (aCons (eVar 0) (aCons (eVar 1) aNil))) (eBin oAdd (eC (.int 1)) (eM1 isL oIdxL (eLst (lDisp (aCons (eC (.str "upper")) (aCons (eC (.str "draw")) (aCons (eC (.str "lower")) aNil))))) (eVar 2)))))
  (sSeq (sIf (eBin oIs (eVar 3) (eC .non)) (sRet (eC .non)) sNil)
  (sRet (eLst (lDisp (aCons (eCB gAbs (aCons (eBin oSub (eBin oAdd (eVar 1) (eBin oIx (eVar 3) (eC (.int 0)))) (eBin oIx (eVar 3) (eC (.int 1)))) aNil)) (aCons (eBin oAdd (eBin oIx (eVar 3) (eC (.int 0))) (eBin oIx (eVar 3) (eC (.int 1)))) aNil)))))))
def c__law_step : List Val → Hea → Res Val := runB 3 4 b__law_step
def b_Duel___getitem__ : En → Hea → SRes := (sSeq (sIf (eOr (eUn oNot (eCall c_is_whole (aCons (eVar 1) aNil))) (eBin oLt (eVar 1) (eC (.int 0)))) (sRaise 4 (eVar 1)) sNil)
  (sRet (eCall c_row_at (aCons (eFld (Nat.beq 34) 2 (eVar 0)) (aCons (eVar 1) aNil)))))
def c_Duel___getitem__ : List Val → Hea → Res Val := runB 2 2 b_Duel___getitem__
def b_is_entry : En → Hea → SRes := (sSeq (sIf (eBin oIs (eVar 0) (eC .non)) (sRet (eC (.bl true))) sNil)
  (sRet (eAnd (eUn (oIsi [.tuple]) (eVar 0)) (eAnd (eBin oEq (eIt gLen (eVar 0)) (eC (.int 2))) (eItL gAll (lComp [1] (iSeq (eVar 0)) (gN 1) eYes (eCall c_is_integer (aCons (eVar 1) (aCons (eUn oNeg (eC (.int 9))) (aCons (eC (.int 9)) aNil))))))))))
def c_is_entry : List Val → Hea → Res Val := runB 1 2 b_is_entry
def b__law_entry : En → Hea → SRes := (sSeq (sSet 1 (eLst (lDisp (aCons (eTup (aCons (eC (.int 1)) (aCons (eUn oNeg (eC (.int 1))) aNil))) (aCons (eTup (aCons (eC (.int 1)) (aCons (eUn oNeg (eC (.int 1))) aNil))) (aCons (eTup (aCons (eC (.int 1)) (aCons (eC (.int 0)) aNil))) (aCons (eTup (aCons (eC (.int 2)) (aCons (eUn oNeg (eC (.int 1))) aNil))) (aCons (eTup (aCons (eC (.int 0)) (aCons (eC (.int 0)) aNil))) (aCons (eTup (aCons (eC (.int 0)) (aCons (eUn oNeg (eC (.int 1))) aNil))) (aCons (eTup (aCons (eUn oNeg (eC (.int 1))) (aCons (eC (.int 1)) aNil))) (aCons (eTup (aCons (eUn oNeg (eC (.int 1))) (aCons (eC (.int 2)) aNil))) (aCons (eTup (aCons (eC (.int 1)) (aCons (eC (.int 1)) aNil))) (aCons (eC .non) (aCons (eC .non) (aCons (eTup (aCons (eC (.int 3)) (aCons (eUn oNeg (eC (.int 2))) aNil))) aNil)))))))))))))))
  (sRet (eCall c__law_pick (aCons (eVar 0) (aCons (eVar 1) aNil)))))
def c__law_entry : List Val → Hea → Res Val := runB 1 2 b__law_entry
def b_Duel_check_first : En → Hea → SRes := (sIf (eUn oNot (eCall c_is_integer (aCons (eVar 1) (aCons (eC (.int 0)) (aCons (eC k_MOST_RATING) aNil))))) (sRaise 4 (eVar 1)) sNil)
def c_Duel_check_first : List Val → Hea → Res Val := runB 2 2 b_Duel_check_first
def b_is_table_row : En → Hea → SRes := (sSeq (sIf (eOr (eUn oNot (eUn (oIsi [.tuple]) (eVar 0))) (eOr (eBin oNe (eIt gLen (eVar 0)) (eC (.int 4))) (eUn oNot (eCall c_is_integer (aCons (eBin oIx (eVar 0) (eC (.int 0))) (aCons (eC (.int 0)) (aCons (eC k_MOST_RATING) aNil))))))) (sRet (eC (.bl false))) sNil)
  (sRet (eItL gAll (lComp [1] (iSeq (eCutA (eVar 0) (some (eC (.int 1))) none)) (gN 1) eYes (eCall c_is_entry (aCons (eVar 1) aNil))))))
def c_is_table_row : List Val → Hea → Res Val := runB 1 2 b_is_table_row
def b__law_duel_rows : En → Hea → SRes := (sSeq (sSet 1 (eNew (lDisp (aCons (eTup (aCons (eC (.int 0)) (aCons (eCall c__law_entry (aCons (eVar 0) aNil)) (aCons (eCall c__law_entry (aCons (eVar 0) aNil)) (aCons (eCall c__law_entry (aCons (eVar 0) aNil)) aNil))))) aNil))))
  (sSeq (sIf (eBin oEq (eCall c__law_draw (aCons (eVar 0) (aCons (eC (.int 2)) aNil))) (eC (.int 0))) (sEx (eApp (eVar 1) (eTup (aCons (eBin oAdd (eC (.int 1)) (eCall c__law_draw (aCons (eVar 0) (aCons (eC (.int 2)) aNil)))) (aCons (eCall c__law_entry (aCons (eVar 0) aNil)) (aCons (eCall c__law_entry (aCons (eVar 0) aNil)) (aCons (eCall c__law_entry (aCons (eVar 0) aNil)) aNil))))))) sNil)
  (sRet (eVar 1))))
def c__law_duel_rows : List Val → Hea → Res Val := runB 1 2 b__law_duel_rows
def b_Duel_step : En → Hea → SRes := (sSeq (sSet 3 (eIxO 34 c_Duel___getitem__ (eVar 0) (eVar 1)))
  (sSeq (sIf (eUn oNot (eCall c_is_result (aCons (eVar 2) aNil))) (sRaise 4 (eVar 2)) sNil)
  (sSeq (sSet 4 (eBin oIx (eVar 3) (eBin oAdd (eC (.int 1)) (eIdxC ["upper", "draw", "lower"] (eVar 2)))))
  (sSeq (sIf (eBin oIs (eVar 4) (eC .non)) (sRet (eC .non)) sNil)
  (sRet (eTup (aCons (eCB gAbs (aCons (eBin oSub (eBin oAdd (eVar 1) (eBin oIx (eVar 4) (eC (.int 0)))) (eBin oIx (eVar 4) (eC (.int 1)))) aNil)) (aCons (eBin oAdd (eBin oIx (eVar 4) (eC (.int 0))) (eBin oIx (eVar 4) (eC (.int 1)))) aNil))))))))
def c_Duel_step : List Val → Hea → Res Val := runB 3 5 b_Duel_step
def b_is_table : En → Hea → SRes := (sSeq (sIf (eOr (eUn oNot (eUn (oIsi [.list, .tuple]) (eVar 0))) (eUn oNot (eChain oLe oLe (eC (.int 1)) (eIt gLen (eVar 0)) (eC k_MOST_ROWS)))) (sRet (eC (.bl false))) sNil)
  (sSeq (sIf (eOr (eUn oNot (eItL gAll (lComp [1] (iSeq (eVar 0)) (gN 1) eYes (eCall c_is_table_row (aCons (eVar 1) aNil))))) (eBin oNe (eBin oIx (eBin oIx (eVar 0) (eC (.int 0))) (eC (.int 0))) (eC (.int 0)))) (sRet (eC (.bl false))) sNil)
  (sRet (eItL gAll (lComp [2, 3] (iZipW (aCons (eVar 0) (aCons (eCutA (eVar 0) (some (eC (.int 1))) none) aNil))) (gT [2, 3]) eYes (eBin oLt (eBin oIx (eVar 2) (eC (.int 0))) (eBin oIx (eVar 3) (eC (.int 0)))))))))
def c_is_table : List Val → Hea → Res Val := runB 1 4 b_is_table
def l_Duel_play_C_0 : CF := (cSeq (cPl (sSet 8 (eIf (eCall c_is_result (aCons (eVar 7) aNil)) (eMeth 34 26 c_Duel_step (eVar 0) (aCons (eVar 4) (aCons (eVar 7) aNil))) (eC .non))))
  (cSeq (cPl (sIf (eBin oIs (eVar 8) (eC .non)) (sRaise 4 (eVar 6)) sNil))
  (cSeq (cPl (sPar [4, 5] (aCons (eBin oIx (eVar 8) (eC (.int 0))) (aCons (eBin oAdd (eVar 5) (eBin oIx (eVar 8) (eC (.int 1)))) aNil))))
  (cSeq (cYield (eTup (aCons (eVar 4) (aCons (eVar 5) aNil))))
  cNil))))
def b_Duel_play_C : CF := (cSeq (cPl (sEx (eMeth 34 25 c_Duel_check_first (eVar 0) (aCons (eVar 1) aNil))))
  (cSeq (cPl (sSet 3 (eIt gTuple (eVar 2))))
  (cSeq (cPl (sPar [4, 5] (aCons (eVar 1) (aCons (eC (.int 0)) aNil))))
  (cSeq (cYield (eTup (aCons (eVar 4) (aCons (eVar 5) aNil))))
  (cSeq (cFor (iEnumS (eVar 3)) (gT [6, 7]) l_Duel_play_C_0)
  cNil)))))
def c_Duel_play_C : CGn := runCo 3 9 b_Duel_play_C
def b_Duel___init__ : En → Hea → SRes := (sSeq (sIf (eUn oNot (eCall c_is_table (aCons (eVar 1) aNil))) (sRaise 2 (eC (.str "table"))) sNil)
  (sSeq (sFldV (Nat.beq 34) 2 (eVar 0) (eIt gTuple (eVar 1)))
  (sSeq (sSet 2 (eLst (lComp2 [3, 4] [4] (iSeq (eFld (Nat.beq 34) 2 (eVar 0))) (gN 3) eYes (iSeq (eCutA (eVar 3) (some (eC (.int 1))) none)) (gN 4) (eBin oIsNot (eVar 4) (eC .non)) (eCB gInt (aCons (eCB gAbs (aCons (eBin oSub (eBin oIx (eVar 4) (eC (.int 0))) (eBin oIx (eVar 4) (eC (.int 1)))) aNil)) aNil)))))
  (sSeq (sFldV (Nat.beq 34) 27 (eVar 0) (eIf (eBin oEq (eVar 2) (eLst (lDisp aNil))) (eC (.int 0)) (eItL gMax (lComp [5] (iSeq (eVar 2)) (gN 5) eYes (eCB gInt (aCons (eVar 5) aNil))))))
  (sFldV (Nat.beq 34) 28 (eVar 0) (eCB gMax2 (aCons (eCB gInt (aCons (eFld (Nat.beq 34) 27 (eVar 0)) aNil)) (aCons (eCB gInt (aCons (eBin oIx (eBin oIx (eFld (Nat.beq 34) 2 (eVar 0)) (eUn oNeg (eC (.int 1)))) (eC (.int 0))) aNil)) aNil))))))))
def c_Duel___init__ : List Val → Hea → Res Val := runB 2 6 b_Duel___init__
def l__law_heard_0 : En → Hea → SRes := (sEx (eApp (eVar 3) (eVar 4)))
def b__law_heard : En → Hea → SRes := (sSeq (sSet 3 (eNew (lDisp aNil)))
  (sSeq (sTryM [(sub_BadGame, (sRet (eLst (lDisp (aCons (eVar 3) (aCons (eCB gReprD (aCons (eUn oExF (eVar 5)) aNil)) aNil))))))] 5 (sForC okE 3 c_Duel_play_C (aMeth 34 24 (eVar 0) (aCons (eVar 1) (aCons (eVar 2) aNil))) (gN 4) l__law_heard_0))
  (sRet (eLst (lDisp (aCons (eVar 3) (aCons (eC .non) aNil)))))))
def c__law_heard : List Val → Hea → Res Val := runB 3 6 b__law_heard
def l__law_kept_0 : En → Hea → SRes := (sSeq (sEx (eApp (eVar 4) (eVar 5)))
  (sEx (eCall c__law_emptied (aCons (eVar 3) aNil))))
def b__law_kept : En → Hea → SRes := (sSeq (sPar [3, 4] (aCons (eNew (lOf (eVar 2))) (aCons (eNew (lDisp aNil)) aNil)))
  (sSeq (sForC okE 3 c_Duel_play_C (aMeth 34 24 (eVar 0) (aCons (eVar 1) (aCons (eVar 3) aNil))) (gN 5) l__law_kept_0)
  (sRet (eVar 4))))
def c__law_kept : List Val → Hea → Res Val := runB 3 6 b__law_kept
def l_law_0 : En → Hea → SRes := (sSeq (sSet 17 (eIf (eBin oIn (eVar 16) (eLst (lDisp (aCons (eC (.str "upper")) (aCons (eC (.str "draw")) (aCons (eC (.str "lower")) aNil)))))) (eCall c__law_step (aCons (eVar 4) (aCons (eVar 11) (aCons (eVar 16) aNil)))) (eC .non)))
  (sSeq (sIf (eAnd (eBin oIs (eVar 17) (eC .non)) (eBin oIs (eVar 14) (eC .non))) (sSet 14 (eCB gReprD (aCons (eVar 15) aNil))) sNil)
  (sIf (eBin oIs (eVar 14) (eC .non)) (sSeq (sPar [11, 12] (aCons (eBin oIx (eVar 17) (eC (.int 0))) (aCons (eBin oAdd (eVar 12) (eBin oIx (eVar 17) (eC (.int 1)))) aNil)))
  (sEx (eApp (eVar 13) (eTup (aCons (eVar 11) (aCons (eVar 12) aNil)))))) sNil)))
def l_law_1 : En → Hea → SRes := (sSeq (sAsg (gT [11, 12, 13, 14]) (eTup (aCons (eVar 5) (aCons (eC (.int 0)) (aCons (eNew (lDisp (aCons (eTup (aCons (eVar 5) (aCons (eC (.int 0)) aNil))) aNil))) (aCons (eC .non) aNil))))))
  (sSeq (sForK [15, 16, 17] (iEnumS (eVar 10)) (gT [15, 16]) l_law_0)
  (sIf (eBin oNe (eCall c__law_heard (aCons (eVar 6) (aCons (eVar 5) (aCons (eVar 10) aNil)))) (eLst (lDisp (aCons (eVar 13) (aCons (eVar 14) aNil))))) (sRet (eC (.bl false))) sNil)))
def l_law_2 : En → Hea → SRes := (sIf (eBin oNe (eCall c__law_heard (aCons (eVar 6) (aCons (eVar 18) (aCons (eVar 7) aNil)))) (eLst (lDisp (aCons (eLst (lDisp aNil)) (aCons (eCB gReprD (aCons (eVar 18) aNil)) aNil))))) (sRet (eC (.bl false))) sNil)
def l_law_3 : En → Hea → SRes := (sSeq (sSet 3 (eCall c__law_pool (aCons (eVar 2) (aCons (eBin oAdd (eC (.int 4100)) (eVar 1)) (aCons (eC (.int 60)) aNil)))))
  (sSeq (sPar [4, 5] (aCons (eCall c__law_duel_rows (aCons (eVar 3) aNil)) (aCons (eCall c__law_draw (aCons (eVar 3) (aCons (eC (.int 24)) aNil))) aNil)))
  (sSeq (sSet 6 (eMake 34 c_Duel___init__ (aCons (eVar 4) aNil)))
  (sSeq (sSet 7 (eLst (lComp [19] (iRng1V (aCons (eCall c__law_draw (aCons (eVar 3) (aCons (eC (.int 9)) aNil))) aNil)) (gN 19) eYes (eCall c__law_pick (aCons (eVar 3) (aCons (eLst (lDisp (aCons (eC (.str "upper")) (aCons (eC (.str "draw")) (aCons (eC (.str "lower")) aNil))))) aNil))))))
  (sSeq (sSet 8 (eCall c__law_pick (aCons (eVar 3) (aCons (eLst (lDisp (aCons (eC .non) (aCons (eC (.str "Upper")) (aCons (eC (.int 5)) (aCons (eLst (lDisp (aCons (eC (.str "draw")) aNil))) (aCons (eC (.str "one")) (aCons (eTup (aCons (eC (.str "lower")) aNil)) aNil)))))))) aNil))))
  (sSeq (sSet 9 (eCall c__law_draw (aCons (eVar 3) (aCons (eBin oAdd (eIt gLen (eVar 7)) (eC (.int 1))) aNil))))
  (sSeq (sForK [10, 11, 12, 13, 14, 15, 16, 17] (iTmp (lDisp (aCons (eVar 7) (aCons (eIt gTuple (eVar 7)) (aCons (eBin oAdd (eBin oAdd (eCutA (eVar 7) none (some (eVar 9))) (eLst (lDisp (aCons (eVar 8) aNil)))) (eCutA (eVar 7) (some (eVar 9)) none)) aNil))))) (gN 10) l_law_1)
  (sSeq (sSet 17 (eCall c__law_heard (aCons (eVar 6) (aCons (eVar 5) (aCons (eVar 7) aNil)))))
  (sSeq (sIf (eAnd (eBin oIs (eBin oIx (eVar 17) (eC (.int 1))) (eC .non)) (eBin oNe (eCall c__law_kept (aCons (eVar 6) (aCons (eVar 5) (aCons (eVar 7) aNil)))) (eBin oIx (eVar 17) (eC (.int 0))))) (sRet (eC (.bl false))) sNil)
  (sForK [18] (iTmp (lDisp (aCons (eC .non) (aCons (eUn oNeg (eC (.int 1))) (aCons (eC (.int 24)) (aCons (eC (.bl true)) aNil)))))) (gN 18) l_law_2))))))))))
def b_law : En → Hea → SRes := (sSeq (sForK [1, 2, 3, 4, 5, 6, 7, 8, 9, 10, 11, 12, 13, 14, 15, 16, 17, 18] (iEnumS (eBin oAdd (eLst (lCut (eVar 0) none (some (eC (.int 3))))) (eBin oMul (eLst (lDisp (aCons (eC (.int 7)) aNil))) (eCB gInt (aCons (eBin oEq (eVar 0) (eLst (lDisp aNil))) aNil))))) (gT [1, 2]) l_law_3)
  (sRet (eC (.bl true))))
def c_law : List Val → Hea → Res Val := runB 1 20 b_law
/-- the plain law: every script of at most 63 ints gives True -/
def Plain : Prop := ∀ ns : List Int, ns.length ≤ 63 → ∃ h, c_law [.ref 0] [.fro ns] = .ok (.bl true) h
end K41
end
section
set_option maxRecDepth 100000
set_option maxHeartbeats 1000000
namespace K41
open PySem L2 Lad
theorem nmOk0 : ∀ m, m < 100 → ∀ n, n < 100 → nmN m = nmN n → m = n := by decide +kernel
theorem nmOk {K : PySem.W.Frag} : NmOk (TT K) := fun m n hm hn e => nmOk0 m hm n hn e
theorem ini_BadBook : InitOk e_BadBook.st e_BadBook.fld := ⟨⟨_, _, _, _, _, _, _, _, _, _, _, _, rfl, fun env => ⟨_, rfl⟩⟩, ⟨_, _, rfl⟩, by decide +kernel, rfl, rfl, rfl, by decide +kernel, by decide +kernel, by decide +kernel, by decide +kernel, by decide +kernel, by decide +kernel⟩
theorem ini_BadGame : InitOk e_BadGame.st e_BadGame.fld := ⟨⟨_, _, _, _, _, _, _, _, _, _, _, _, rfl, fun env => ⟨_, rfl⟩⟩, ⟨_, _, rfl⟩, by decide +kernel, rfl, rfl, rfl, by decide +kernel, by decide +kernel, by decide +kernel, by decide +kernel, by decide +kernel, by decide +kernel⟩
structure Txt (P : Program) (K : PySem.W.Frag) (mg : Str → Option Value) : Prop where
  z_abs : mg "abs" = none
  z_all : mg "all" = none
  z_bool : mg "bool" = none
  z_enumerate : mg "enumerate" = none
  z_int : mg "int" = none
  z_isinstance : mg "isinstance" = none
  z_len : mg "len" = none
  z_list : mg "list" = none
  z_max : mg "max" = none
  z_range : mg "range" = none
  z_repr : mg "repr" = none
  z_str : mg "str" = none
  z_tuple : mg "tuple" = none
  z_zip : mg "zip" = none
  F_is_whole : Fun K "is_whole" "is_whole" (top 7) (He.ga K "is_whole") (fdOf K (He.ga K "is_whole"))
  g_is_whole : mg "is_whole" = some (.ref (He.ga K "is_whole"))
  F_row_at : Fun K "row_at" "row_at" (top 15) (He.ga K "row_at") (fdOf K (He.ga K "row_at"))
  g_row_at : mg "row_at" = some (.ref (He.ga K "row_at"))
  F_is_result : Fun K "is_result" "is_result" (top 16) (He.ga K "is_result") (fdOf K (He.ga K "is_result"))
  g_is_result : mg "is_result" = some (.ref (He.ga K "is_result"))
  F__law_pool : Fun K "_law_pool" "_law_pool" (top 20) (He.ga K "_law_pool") (fdOf K (He.ga K "_law_pool"))
  g__law_pool : mg "_law_pool" = some (.ref (He.ga K "_law_pool"))
  F__law_draw : Fun K "_law_draw" "_law_draw" (top 21) (He.ga K "_law_draw") (fdOf K (He.ga K "_law_draw"))
  g__law_draw : mg "_law_draw" = some (.ref (He.ga K "_law_draw"))
  F__law_row_at : Fun K "_law_row_at" "_law_row_at" (top 24) (He.ga K "_law_row_at") (fdOf K (He.ga K "_law_row_at"))
  g__law_row_at : mg "_law_row_at" = some (.ref (He.ga K "_law_row_at"))
  F__law_emptied : Fun K "_law_emptied" "_law_emptied" (top 28) (He.ga K "_law_emptied") (fdOf K (He.ga K "_law_emptied"))
  g__law_emptied : mg "_law_emptied" = some (.ref (He.ga K "_law_emptied"))
  F_is_integer : Fun K "is_integer" "is_integer" (top 6) (He.ga K "is_integer") (fdOf K (He.ga K "is_integer"))
  g_is_integer : mg "is_integer" = some (.ref (He.ga K "is_integer"))
  F__law_pick : Fun K "_law_pick" "_law_pick" (top 22) (He.ga K "_law_pick") (fdOf K (He.ga K "_law_pick"))
  g__law_pick : mg "_law_pick" = some (.ref (He.ga K "_law_pick"))
  F__law_step : Fun K "_law_step" "_law_step" (top 26) (He.ga K "_law_step") (fdOf K (He.ga K "_law_step"))
  g__law_step : mg "_law_step" = some (.ref (He.ga K "_law_step"))
  F_Duel___getitem__ : Fun K "__getitem__" "Duel.__getitem__" (inClass (top 18) 3) (He.ma K (He.ga K "Duel") "__getitem__") (fdOf K (He.ma K (He.ga K "Duel") "__getitem__"))
  F_is_entry : Fun K "is_entry" "is_entry" (top 12) (He.ga K "is_entry") (fdOf K (He.ga K "is_entry"))
  g_is_entry : mg "is_entry" = some (.ref (He.ga K "is_entry"))
  F__law_entry : Fun K "_law_entry" "_law_entry" (top 23) (He.ga K "_law_entry") (fdOf K (He.ga K "_law_entry"))
  g__law_entry : mg "_law_entry" = some (.ref (He.ga K "_law_entry"))
  F_Duel_check_first : Fun K "check_first" "Duel.check_first" (inClass (top 18) 5) (He.ma K (He.ga K "Duel") "check_first") (fdOf K (He.ma K (He.ga K "Duel") "check_first"))
  F_is_table_row : Fun K "is_table_row" "is_table_row" (top 13) (He.ga K "is_table_row") (fdOf K (He.ga K "is_table_row"))
  g_is_table_row : mg "is_table_row" = some (.ref (He.ga K "is_table_row"))
  F__law_duel_rows : Fun K "_law_duel_rows" "_law_duel_rows" (top 25) (He.ga K "_law_duel_rows") (fdOf K (He.ga K "_law_duel_rows"))
  g__law_duel_rows : mg "_law_duel_rows" = some (.ref (He.ga K "_law_duel_rows"))
  F_Duel_step : Fun K "step" "Duel.step" (inClass (top 18) 4) (He.ma K (He.ga K "Duel") "step") (fdOf K (He.ma K (He.ga K "Duel") "step"))
  F_is_table : Fun K "is_table" "is_table" (top 14) (He.ga K "is_table") (fdOf K (He.ga K "is_table"))
  g_is_table : mg "is_table" = some (.ref (He.ga K "is_table"))
  F_Duel_play : Fun K "play" "Duel.play" (inClass (top 18) 7) (He.ma K (He.ga K "Duel") "play") (fdOf K (He.ma K (He.ga K "Duel") "play"))
  F_Duel___init__ : Fun K "__init__" "Duel.__init__" (inClass (top 18) 0) (He.ma K (He.ga K "Duel") "__init__") (fdOf K (He.ma K (He.ga K "Duel") "__init__"))
  F__law_heard : Fun K "_law_heard" "_law_heard" (top 27) (He.ga K "_law_heard") (fdOf K (He.ga K "_law_heard"))
  g__law_heard : mg "_law_heard" = some (.ref (He.ga K "_law_heard"))
  F__law_kept : Fun K "_law_kept" "_law_kept" (top 29) (He.ga K "_law_kept") (fdOf K (He.ga K "_law_kept"))
  g__law_kept : mg "_law_kept" = some (.ref (He.ga K "_law_kept"))
  F_law : Fun K "law" "law" (top 30) (He.ga K "law") (fdOf K (He.ga K "law"))
  g_law : mg "law" = some (.ref (He.ga K "law"))
  nl : noList K = true
  con_MOST_RATING : ConOk K mg "MOST_RATING" k_MOST_RATING
  con_MOST_ROWS : ConOk K mg "MOST_ROWS" k_MOST_ROWS
  con_RESULTS : ConOk K mg "RESULTS" k_RESULTS
  td_RESULTS : TupD K mg "RESULTS"
  g_LadderError : mg "LadderError" = some (.ref ((TT K).ca 0))
  g_BadBook : mg "BadBook" = some (.ref ((TT K).ca 2))
  g_BadGame : mg "BadGame" = some (.ref ((TT K).ca 4))
  g_Duel : mg "Duel" = some (.ref ((TT K).ca 34))
  er_BadBook : ExTxt P K e_BadBook.st ((TT K).ca 2) (erI K e_BadBook) (erCc K e_BadBook) (erCda K e_BadBook) (fdOf K (erI K e_BadBook)) "ValueError" "ValueError.__new__" "ValueError.__init__" He.veBase ((TT K).fld 2)
  xf_2 : XfC K ((TT K).ca 2) ∧ ExcC K ((TT K).ca 2)
  no_2 : PySem.W.findIn K (.ref ((TT K).ca 2)) "part" = some none
  er_BadGame : ExTxt P K e_BadGame.st ((TT K).ca 4) (erI K e_BadGame) (erCc K e_BadGame) (erCda K e_BadGame) (fdOf K (erI K e_BadGame)) "ValueError" "ValueError.__new__" "ValueError.__init__" He.veBase ((TT K).fld 4)
  xf_4 : XfC K ((TT K).ca 4) ∧ ExcC K ((TT K).ca 4)
  no_4 : PySem.W.findIn K (.ref ((TT K).ca 4)) "value" = some none
  exm_2_BadGame : PySem.W.exmOne K (.ref ((TT K).ca 2)) (.ref ((TT K).ca 4)) = some false
  exm_4_BadGame : PySem.W.exmOne K (.ref ((TT K).ca 4)) (.ref ((TT K).ca 4)) = some true
  ns_2 : PySem.W.subIn K (.ref ((TT K).ca 2)) (.type "StopIteration") = some false
  ns_4 : PySem.W.subIn K (.ref ((TT K).ca 4)) (.type "StopIteration") = some false
  own_Duel : OwnC K ((TT K).ca 34)
  na_Duel_far : NoAttr K ((TT K).ca 34) "far"
  na_Duel_span : NoAttr K ((TT K).ca 34) "span"
  na_Duel_table : NoAttr K ((TT K).ca 34) "table"
  me_Duel_check_first : Meth K ((TT K).ca 34) "check_first" (He.ma K (He.ga K "Duel") "check_first")
  me_Duel_play : Meth K ((TT K).ca 34) "play" (He.ma K (He.ga K "Duel") "play")
  me_Duel_step : Meth K ((TT K).ca 34) "step" (He.ma K (He.ga K "Duel") "step")
  mk_Duel : Mk K ((TT K).ca 34) (He.ma K (He.ga K "Duel") "__init__")
  du_Duel___getitem__ : Dun K ((TT K).ca 34) "__getitem__" (He.ma K (He.ga K "Duel") "__getitem__")
section
variable {P : Program} {w : World} {K : PySem.W.Frag} {mg : Str → Option Value} {base : Heap}
theorem okE_ok (t : Txt P K mg) : ∀ c, okE c = true → PySem.W.subIn K (.ref ((TT K).ca c)) (.type "StopIteration") = some false := by
  intro c h
  unfold okE at h
  split at h
  · exact t.ns_2
  · exact t.ns_4
  · cases h
end
abbrev N_is_whole : List Str := ["value"]
theorem sc_is_whole : FnScope N_is_whole ["value"] (defScope (top 7)) := ⟨rfl, rfl, rfl, by decide +kernel, rfl, by decide +kernel, by decide +kernel⟩
abbrev N_row_at : List Str := ["table", "difference", "row"]
theorem sc_row_at : FnScope N_row_at ["table", "difference"] (defScope (top 15)) := ⟨rfl, rfl, rfl, by decide +kernel, rfl, by decide +kernel, by decide +kernel⟩
abbrev N_is_result : List Str := ["value"]
theorem sc_is_result : FnScope N_is_result ["value"] (defScope (top 16)) := ⟨rfl, rfl, rfl, by decide +kernel, rfl, by decide +kernel, by decide +kernel⟩
abbrev N__law_pool : List Str := ["_law_cell", "_law_salt", "_law_many", "_law_whole", "_law_digits", "_law_left", "_law_k", "_law_one"]
theorem sc__law_pool : FnScope N__law_pool ["_law_cell", "_law_salt", "_law_many"] (defScope (top 20)) := ⟨rfl, rfl, rfl, by decide +kernel, rfl, by decide +kernel, by decide +kernel⟩
abbrev N__law_draw : List Str := ["_law_pool_here", "_law_many", "_law_at"]
theorem sc__law_draw : FnScope N__law_draw ["_law_pool_here", "_law_many"] (defScope (top 21)) := ⟨rfl, rfl, rfl, by decide +kernel, rfl, by decide +kernel, by decide +kernel⟩
abbrev N__law_row_at : List Str := ["_law_rows", "_law_difference", "_law_found", "_law_row"]
theorem sc__law_row_at : FnScope N__law_row_at ["_law_rows", "_law_difference"] (defScope (top 24)) := ⟨rfl, rfl, rfl, by decide +kernel, rfl, by decide +kernel, by decide +kernel⟩
abbrev N__law_emptied : List Str := ["_law_row", "_law_turn"]
theorem sc__law_emptied : FnScope N__law_emptied ["_law_row"] (defScope (top 28)) := ⟨rfl, rfl, rfl, by decide +kernel, rfl, by decide +kernel, by decide +kernel⟩
abbrev N_is_integer : List Str := ["value", "lowest", "highest"]
theorem sc_is_integer : FnScope N_is_integer ["value", "lowest", "highest"] (defScope (top 6)) := ⟨rfl, rfl, rfl, by decide +kernel, rfl, by decide +kernel, by decide +kernel⟩
abbrev N__law_pick : List Str := ["_law_pool_here", "_law_some"]
theorem sc__law_pick : FnScope N__law_pick ["_law_pool_here", "_law_some"] (defScope (top 22)) := ⟨rfl, rfl, rfl, by decide +kernel, rfl, by decide +kernel, by decide +kernel⟩
abbrev N__law_step : List Str := ["_law_rows", "_law_difference", "_law_result", "_law_entry_here"]
theorem sc__law_step : FnScope N__law_step ["_law_rows", "_law_difference", "_law_result"] (defScope (top 26)) := ⟨rfl, rfl, rfl, by decide +kernel, rfl, by decide +kernel, by decide +kernel⟩
abbrev N_Duel___getitem__ : List Str := ["self", "difference"]
theorem sc_Duel___getitem__ : FnScope N_Duel___getitem__ ["self", "difference"] (defScope (inClass (top 18) 3)) := ⟨rfl, rfl, rfl, by decide +kernel, rfl, by decide +kernel, by decide +kernel⟩
abbrev N_is_entry : List Str := ["value", "change"]
theorem sc_is_entry : FnScope N_is_entry ["value"] (defScope (top 12)) := ⟨rfl, rfl, rfl, by decide +kernel, rfl, by decide +kernel, by decide +kernel⟩
abbrev N__law_entry : List Str := ["_law_pool_here", "_law_some"]
theorem sc__law_entry : FnScope N__law_entry ["_law_pool_here"] (defScope (top 23)) := ⟨rfl, rfl, rfl, by decide +kernel, rfl, by decide +kernel, by decide +kernel⟩
abbrev N_Duel_check_first : List Str := ["self", "first"]
theorem sc_Duel_check_first : FnScope N_Duel_check_first ["self", "first"] (defScope (inClass (top 18) 5)) := ⟨rfl, rfl, rfl, by decide +kernel, rfl, by decide +kernel, by decide +kernel⟩
abbrev N_is_table_row : List Str := ["value", "entry"]
theorem sc_is_table_row : FnScope N_is_table_row ["value"] (defScope (top 13)) := ⟨rfl, rfl, rfl, by decide +kernel, rfl, by decide +kernel, by decide +kernel⟩
abbrev N__law_duel_rows : List Str := ["_law_pool_here", "_law_rows"]
theorem sc__law_duel_rows : FnScope N__law_duel_rows ["_law_pool_here"] (defScope (top 25)) := ⟨rfl, rfl, rfl, by decide +kernel, rfl, by decide +kernel, by decide +kernel⟩
abbrev N_Duel_step : List Str := ["self", "difference", "result", "row", "entry"]
theorem sc_Duel_step : FnScope N_Duel_step ["self", "difference", "result"] (defScope (inClass (top 18) 4)) := ⟨rfl, rfl, rfl, by decide +kernel, rfl, by decide +kernel, by decide +kernel⟩
abbrev N_is_table : List Str := ["value", "row", "one", "other"]
theorem sc_is_table : FnScope N_is_table ["value"] (defScope (top 14)) := ⟨rfl, rfl, rfl, by decide +kernel, rfl, by decide +kernel, by decide +kernel⟩
abbrev N_Duel_play_C : List Str := ["self", "first", "results", "rows", "difference", "total", "index", "result", "told"]
theorem sc_Duel_play_C : GScope N_Duel_play_C ["self", "first", "results"] (defScope (inClass (top 18) 7)) := ⟨rfl, rfl, rfl, by decide +kernel, rfl, by decide +kernel, by decide +kernel⟩
abbrev N_Duel___init__ : List Str := ["self", "table", "parts", "row", "entry", "part"]
theorem sc_Duel___init__ : FnScope N_Duel___init__ ["self", "table"] (defScope (inClass (top 18) 0)) := ⟨rfl, rfl, rfl, by decide +kernel, rfl, by decide +kernel, by decide +kernel⟩
abbrev N__law_heard : List Str := ["_law_duel", "_law_first", "_law_results", "_law_found", "_law_one", "e"]
theorem sc__law_heard : FnScope N__law_heard ["_law_duel", "_law_first", "_law_results"] (defScope (top 27)) := ⟨rfl, rfl, rfl, by decide +kernel, rfl, by decide +kernel, by decide +kernel⟩
abbrev N__law_kept : List Str := ["_law_duel", "_law_first", "_law_results", "_law_row", "_law_found", "_law_one"]
theorem sc__law_kept : FnScope N__law_kept ["_law_duel", "_law_first", "_law_results"] (defScope (top 29)) := ⟨rfl, rfl, rfl, by decide +kernel, rfl, by decide +kernel, by decide +kernel⟩
abbrev N_law : List Str := ["_law_script", "_law_k", "_law_cell", "_law_pool_here", "_law_rows", "_law_first", "_law_duel", "_law_results", "_law_odd", "_law_at", "_law_row", "_law_difference", "_law_total", "_law_due", "_law_wrong", "_law_index", "_law_result", "_law_told", "_law_one", "_law_turn"]
theorem sc_law : FnScope N_law ["_law_script"] (defScope (top 30)) := ⟨rfl, rfl, rfl, by decide +kernel, rfl, by decide +kernel, by decide +kernel⟩
section
variable {P : Program} {w : World} {K : PySem.W.Frag} {mg : Str → Option Value} {base : Heap}
theorem ok_is_whole (t : Txt P K mg) : FnOk P w K mg base (L2.CX P w) 1 (He.ga K "is_whole") (fdOf K (He.ga K "is_whole")) ["value"] (spEv ⟨K, (TT K).ca, (TT K).nm, (TT K).fld, P, w, (TT K).ex⟩ c_is_whole) :=
  fn_ok (T := TT K) fin_ok t.F_is_whole sc_is_whole fun cdv A outer s H E hr => (ss_one (st_ret (se_and (se_isi (b := .int) rfl t.z_isinstance (se_var (pv 0)) (ty_of t.z_int (by decide +kernel))) (se_one (se_not (se_isi (b := .bool) rfl t.z_isinstance (se_var (pv 0)) (ty_of t.z_bool (by decide +kernel))))))))
theorem ok_row_at (t : Txt P K mg) : FnOk P w K mg base (L2.CX P w) 1 (He.ga K "row_at") (fdOf K (He.ga K "row_at")) ["table", "difference"] (spEv ⟨K, (TT K).ca, (TT K).nm, (TT K).fld, P, w, (TT K).ex⟩ c_row_at) :=
  fn_ok (T := TT K) fin_ok t.F_row_at sc_row_at fun cdv A outer s H E hr => (ss_one (st_ret (se_ix (se_lst (sl_comp (own := [("row", 2)]) (b := (gN 2)) rfl sc_row_at.nd (si_seq (se_var (pv 0))) (blkOk_by (own := [("row", 2)]) (N := N_row_at) (sc := defScope (top 15)) (by decide +kernel)) (fun _ _ _ _ _ => (pg_name (i := 2) sc_row_at.nd rfl (Or.inl rfl))) (gok_name (vs := [2]) (by simp)) (fun _ _ _ _ _ => (sts_one (st_cmp o_le (se_ix (se_var (pv 2)) se_int) (se_var (pv 1)) (nomark _)))) (fun _ _ _ _ _ => (se_var (pv 2))))) (se_un o_neg se_int))))
theorem ok_is_result (t : Txt P K mg) : FnOk P w K mg base (L2.CX P w) 1 (He.ga K "is_result") (fdOf K (He.ga K "is_result")) ["value"] (spEv ⟨K, (TT K).ca, (TT K).nm, (TT K).fld, P, w, (TT K).ex⟩ c_is_result) :=
  fn_ok (T := TT K) fin_ok t.F_is_result sc_is_result fun cdv A outer s H E hr => (ss_one (st_ret (se_and (se_isi (b := .str) rfl t.z_isinstance (se_var (pv 0)) (ty_of t.z_str (by decide +kernel))) (se_one (se_cmp (o_in (u65 hr)) (se_var (pv 0)) (se_con t.con_RESULTS) (by with_unfolding_all rfl))))))
theorem ok__law_pool (t : Txt P K mg) : FnOk P w K mg base (L2.CX P w) 1 (He.ga K "_law_pool") (fdOf K (He.ga K "_law_pool")) ["_law_cell", "_law_salt", "_law_many"] (spEv ⟨K, (TT K).ca, (TT K).nm, (TT K).fld, P, w, (TT K).ex⟩ c__law_pool) :=
  fn_ok (T := TT K) finK_ok t.F__law_pool sc__law_pool fun cdv A outer s H E hr => (ss_cons (st_par2 (i := 3) (j := 4) rfl sc__law_pool.nd rfl rfl (by decide) rfl rfl (sa_cons (se_cb (g_max2 rfl) t.z_max (by decide +kernel) (sa_cons (se_ct g_int t.z_int (by decide +kernel) (sa_cons (se_var (pv 0)) sa_nil)) (sa_cons (se_ct g_int t.z_int (by decide +kernel) (sa_cons (se_bin o_sub (se_un o_neg se_int) (se_var (pv 0))) sa_nil)) sa_nil))) (sa_cons (se_new (sl_lst sa_nil)) sa_nil)) (by rfl))
  (ss_cons (st_set (i := 5) sc__law_pool.nd rfl (Or.inl rfl) (se_var (pv 3)))
  (ss_cons (st_for (passes_of rfl) rfl (si_range1 rfl t.z_range (sa_cons (se_var (pv 2)) sa_nil)) (pg_name (i := 6) sc__law_pool.nd rfl (Or.inl rfl)) (gok_name (vs := [6]) (by simp)) (ss_one (st_if (st_bool (sw_and (st_cmp o_ge (se_var (pv 3)) (se_bin o_pow se_int se_int) (nomark _)) (sw_one (st_cmp o_gt (se_var (pv 5)) se_int (nomark _))))) (ss_cons (st_ex (se_app (se_var (pv 4)) (se_bin o_mod (se_ct g_int t.z_int (by decide +kernel) (sa_cons (se_var (pv 5)) sa_nil)) se_int)))
  (ss_one (st_set (i := 5) sc__law_pool.nd rfl (Or.inl rfl) (se_bin o_div (se_var (pv 5)) se_int)))) (ss_cons (st_set (i := 7) sc__law_pool.nd rfl (Or.inl rfl) (se_bin o_pow (se_bin o_add (se_bin o_add (se_bin o_mod (se_ct g_int t.z_int (by decide +kernel) (sa_cons (se_var (pv 3)) sa_nil)) se_int) (se_bin o_mul se_int (se_var (pv 1)))) se_int) se_int))
  (ss_cons (st_set (i := 7) sc__law_pool.nd rfl (Or.inl rfl) (se_bin o_mul (se_bin o_add (se_bin o_mod (se_ct g_int t.z_int (by decide +kernel) (sa_cons (se_var (pv 7)) sa_nil)) se_int) (se_bin o_mul se_int (se_bin o_add (se_var (pv 6)) se_int))) (se_bin o_add (se_var (pv 6)) se_int)))
  (ss_cons (st_set (i := 7) sc__law_pool.nd rfl (Or.inl rfl) (se_bin o_mod (se_ct g_int t.z_int (by decide +kernel) (sa_cons (se_var (pv 7)) sa_nil)) se_int))
  (ss_cons (st_set (i := 7) sc__law_pool.nd rfl (Or.inl rfl) (se_bin o_mul (se_bin o_mod (se_ct g_int t.z_int (by decide +kernel) (sa_cons (se_bin o_pow (se_var (pv 7)) se_int) sa_nil)) se_int) se_int))
  (ss_one (st_ex (se_app (se_var (pv 4)) (se_bin o_mod (se_ct g_int t.z_int (by decide +kernel) (sa_cons (se_bin o_div (se_bin o_mod (se_ct g_int t.z_int (by decide +kernel) (sa_cons (se_var (pv 7)) sa_nil)) se_int) se_int) sa_nil)) se_int)))))))))))
  (ss_one (st_ret (se_new (sl_lst (sa_cons (se_var (pv 4)) (sa_cons se_int sa_nil)))))))))
theorem ok__law_draw (t : Txt P K mg) : FnOk P w K mg base (L2.CX P w) 1 (He.ga K "_law_draw") (fdOf K (He.ga K "_law_draw")) ["_law_pool_here", "_law_many"] (spEv ⟨K, (TT K).ca, (TT K).nm, (TT K).fld, P, w, (TT K).ex⟩ c__law_draw) :=
  fn_ok (T := TT K) fin_ok t.F__law_draw sc__law_draw fun cdv A outer s H E hr => (ss_cons (st_set (i := 2) sc__law_draw.nd rfl (Or.inl rfl) (se_ix (se_var (pv 0)) se_int))
  (ss_cons (st_setIx (se_bin o_add (se_var (pv 2)) se_int) (se_var (pv 0)) se_int)
  (ss_one (st_ret (se_if (st_cmp o_lt (se_var (pv 2)) (se_it g_len t.z_len (by decide +kernel) (se_ix (se_var (pv 0)) se_int)) (nomark _)) (se_bin o_mod (se_ct g_int t.z_int (by decide +kernel) (sa_cons (se_ix (se_ix (se_var (pv 0)) se_int) (se_var (pv 2))) sa_nil)) (se_var (pv 1))) se_int)))))
theorem ok__law_row_at (t : Txt P K mg) : FnOk P w K mg base (L2.CX P w) 1 (He.ga K "_law_row_at") (fdOf K (He.ga K "_law_row_at")) ["_law_rows", "_law_difference"] (spEv ⟨K, (TT K).ca, (TT K).nm, (TT K).fld, P, w, (TT K).ex⟩ c__law_row_at) :=
  fn_ok (T := TT K) fin_ok t.F__law_row_at sc__law_row_at fun cdv A outer s H E hr => (ss_cons (st_set (i := 2) sc__law_row_at.nd rfl (Or.inl rfl) (se_ix (se_var (pv 0)) se_int))
  (ss_cons (st_for (passes_of rfl) rfl (si_seq (se_var (pv 0))) (pg_name (i := 3) sc__law_row_at.nd rfl (Or.inl rfl)) (gok_name (vs := [3]) (by simp)) (ss_one (st_if (st_cmp o_le (se_ix (se_var (pv 3)) se_int) (se_var (pv 1)) (nomark _)) (ss_one (st_set (i := 2) sc__law_row_at.nd rfl (Or.inl rfl) (se_var (pv 3)))) ss_nil)))
  (ss_one (st_ret (se_var (pv 2))))))
theorem ok__law_emptied (t : Txt P K mg) : FnOk P w K mg base (L2.CX P w) 1 (He.ga K "_law_emptied") (fdOf K (He.ga K "_law_emptied")) ["_law_row"] (spEv ⟨K, (TT K).ca, (TT K).nm, (TT K).fld, P, w, (TT K).ex⟩ c__law_emptied) :=
  fn_ok (T := TT K) fin_ok t.F__law_emptied sc__law_emptied fun cdv A outer s H E hr => (ss_one (st_for (passes_of rfl) rfl (si_range1 rfl t.z_range (sa_cons (se_it g_len t.z_len (by decide +kernel) (se_var (pv 0))) sa_nil)) (pg_name (i := 1) sc__law_emptied.nd rfl (Or.inl rfl)) (gok_name (vs := [1]) (by simp)) (ss_one (st_ex (se_pop (se_var (pv 0)))))))
theorem ok_is_integer (t : Txt P K mg) : FnOk P w K mg base (L2.CX P w) 2 (He.ga K "is_integer") (fdOf K (He.ga K "is_integer")) ["value", "lowest", "highest"] (spEv ⟨K, (TT K).ca, (TT K).nm, (TT K).fld, P, w, (TT K).ex⟩ c_is_integer) :=
  fn_ok (T := TT K) fin_ok t.F_is_integer sc_is_integer fun cdv A outer s H E hr => (ss_one (st_ret (se_and (se_call (ok_is_whole t) (hr.mono (by decide)) rfl t.g_is_whole t.F_is_whole.kp (t.F_is_whole.binds fun _ _ _ _ _ _ us hl => match us, hl with | [_], _ => rfl) (takes_of rfl rfl rfl rfl) (sa_cons (se_var (pv 0)) sa_nil)) (se_one (se_chain2 o_le o_le (se_var (pv 1)) (se_var (pv 0)) (se_var (pv 2)))))))
theorem ok__law_pick (t : Txt P K mg) : FnOk P w K mg base (L2.CX P w) 2 (He.ga K "_law_pick") (fdOf K (He.ga K "_law_pick")) ["_law_pool_here", "_law_some"] (spEv ⟨K, (TT K).ca, (TT K).nm, (TT K).fld, P, w, (TT K).ex⟩ c__law_pick) :=
  fn_ok (T := TT K) fin_ok t.F__law_pick sc__law_pick fun cdv A outer s H E hr => (ss_one (st_ret (se_ix (se_var (pv 1)) (se_call (ok__law_draw t) (hr.mono (by decide)) rfl t.g__law_draw t.F__law_draw.kp (t.F__law_draw.binds fun _ _ _ _ _ _ us hl => match us, hl with | [_, _], _ => rfl) (takes_of rfl rfl rfl rfl) (sa_cons (se_var (pv 0)) (sa_cons (se_it g_len t.z_len (by decide +kernel) (se_var (pv 1))) sa_nil))))))
theorem ok__law_step (t : Txt P K mg) : FnOk P w K mg base (L2.CX P w) 2 (He.ga K "_law_step") (fdOf K (He.ga K "_law_step")) ["_law_rows", "_law_difference", "_law_result"] (spEv ⟨K, (TT K).ca, (TT K).nm, (TT K).fld, P, w, (TT K).ex⟩ c__law_step) :=
  fn_ok (T := TT K) fin_ok t.F__law_step sc__law_step fun cdv A outer s H E hr => (ss_cons (st_set (i := 3) sc__law_step.nd rfl (Or.inl rfl) (se_ix (se_call (ok__law_row_at t) (hr.mono (by decide)) rfl t.g__law_row_at t.F__law_row_at.kp (t.F__law_row_at.binds fun _ _ _ _ _ _ us hl => match us, hl with | [_, _], _ => rfl) (takes_of rfl rfl rfl rfl) (sa_cons (se_var (pv 0)) (sa_cons (se_var (pv 1)) sa_nil))) (se_bin o_add se_int (se_idxL (se_lst (sl_lst (sa_cons se_str (sa_cons se_str (sa_cons se_str sa_nil))))) (se_var (pv 2))))))
  (ss_cons (st_if (st_cmp o_is (se_var (pv 3)) se_non (nomark _)) (ss_one (st_ret se_non)) ss_nil)
  (ss_one (st_ret (se_lst (sl_lst (sa_cons (se_cb g_abs t.z_abs (by decide +kernel) (sa_cons (se_bin o_sub (se_bin o_add (se_var (pv 1)) (se_ix (se_var (pv 3)) se_int)) (se_ix (se_var (pv 3)) se_int)) sa_nil)) (sa_cons (se_bin o_add (se_ix (se_var (pv 3)) se_int) (se_ix (se_var (pv 3)) se_int)) sa_nil))))))))
theorem ok_Duel___getitem__ (t : Txt P K mg) : FnOk P w K mg base (L2.CX P w) 2 (He.ma K (He.ga K "Duel") "__getitem__") (fdOf K (He.ma K (He.ga K "Duel") "__getitem__")) ["self", "difference"] (spEv ⟨K, (TT K).ca, (TT K).nm, (TT K).fld, P, w, (TT K).ex⟩ c_Duel___getitem__) :=
  fn_ok (T := TT K) fin_ok t.F_Duel___getitem__ sc_Duel___getitem__ fun cdv A outer s H E hr => (ss_cons (st_if (st_bool (sw_or (st_not (st_val (se_call (ok_is_whole t) (hr.mono (by decide)) rfl t.g_is_whole t.F_is_whole.kp (t.F_is_whole.binds fun _ _ _ _ _ _ us hl => match us, hl with | [_], _ => rfl) (takes_of rfl rfl rfl rfl) (sa_cons (se_var (pv 1)) sa_nil)))) (sw_oneO (st_cmp o_lt (se_var (pv 1)) se_int (nomark _))))) (ss_one (st_raise (c := 4) rfl t.er_BadGame hr t.g_BadGame (takes_of rfl rfl rfl rfl) (se_var (pv 1)))) ss_nil)
  (ss_one (st_ret (se_call (ok_row_at t) (hr.mono (by decide)) rfl t.g_row_at t.F_row_at.kp (t.F_row_at.binds fun _ _ _ _ _ _ us hl => match us, hl with | [_, _], _ => rfl) (takes_of rfl rfl rfl rfl) (sa_cons (se_fld nmOk (by decide) rfl (fun c hc => by cases Nat.eq_of_beq_eq_true hc; exact ⟨t.own_Duel.cl, t.na_Duel_table⟩) (se_var (pv 0))) (sa_cons (se_var (pv 1)) sa_nil))))))
theorem ok_is_entry (t : Txt P K mg) : FnOk P w K mg base (L2.CX P w) 3 (He.ga K "is_entry") (fdOf K (He.ga K "is_entry")) ["value"] (spEv ⟨K, (TT K).ca, (TT K).nm, (TT K).fld, P, w, (TT K).ex⟩ c_is_entry) :=
  fn_ok (T := TT K) fin_ok t.F_is_entry sc_is_entry fun cdv A outer s H E hr => (ss_cons (st_if (st_cmp o_is (se_var (pv 0)) se_non (nomark _)) (ss_one (st_ret se_bl)) ss_nil)
  (ss_one (st_ret (se_and (se_isi (b := .tuple) rfl t.z_isinstance (se_var (pv 0)) (ty_of t.z_tuple (by decide +kernel))) (se_and (se_cmp (o_eq hr.units) (se_it g_len t.z_len (by decide +kernel) (se_var (pv 0))) se_int (nomark _)) (se_one (se_ilL (g_all rfl) t.z_all (by decide +kernel) (sl_comp (own := [("change", 1)]) (b := (gN 1)) rfl sc_is_entry.nd (si_seq (se_var (pv 0))) (blkOk_by (own := [("change", 1)]) (N := N_is_entry) (sc := defScope (top 12)) (by decide +kernel)) (fun _ _ _ _ _ => (pg_name (i := 1) sc_is_entry.nd rfl (Or.inl rfl))) (gok_name (vs := [1]) (by simp)) (fun _ _ _ _ _ => sts_nil) (fun _ _ _ _ _ => (se_call (ok_is_integer t) (hr.mono (by decide)) rfl t.g_is_integer t.F_is_integer.kp (t.F_is_integer.binds fun _ _ _ _ _ _ us hl => match us, hl with | [_, _, _], _ => rfl) takes0 (sa_cons (se_var (pv 1)) (sa_cons (se_un o_neg se_int) (sa_cons se_int sa_nil)))))))))))))
theorem ok__law_entry (t : Txt P K mg) : FnOk P w K mg base (L2.CX P w) 3 (He.ga K "_law_entry") (fdOf K (He.ga K "_law_entry")) ["_law_pool_here"] (spEv ⟨K, (TT K).ca, (TT K).nm, (TT K).fld, P, w, (TT K).ex⟩ c__law_entry) :=
  fn_ok (T := TT K) fin_ok t.F__law_entry sc__law_entry fun cdv A outer s H E hr => (ss_cons (st_set (i := 1) sc__law_entry.nd rfl (Or.inl rfl) (se_lst (sl_lst (sa_cons (se_tup (sa_cons se_int (sa_cons (se_un o_neg se_int) sa_nil))) (sa_cons (se_tup (sa_cons se_int (sa_cons (se_un o_neg se_int) sa_nil))) (sa_cons (se_tup (sa_cons se_int (sa_cons se_int sa_nil))) (sa_cons (se_tup (sa_cons se_int (sa_cons (se_un o_neg se_int) sa_nil))) (sa_cons (se_tup (sa_cons se_int (sa_cons se_int sa_nil))) (sa_cons (se_tup (sa_cons se_int (sa_cons (se_un o_neg se_int) sa_nil))) (sa_cons (se_tup (sa_cons (se_un o_neg se_int) (sa_cons se_int sa_nil))) (sa_cons (se_tup (sa_cons (se_un o_neg se_int) (sa_cons se_int sa_nil))) (sa_cons (se_tup (sa_cons se_int (sa_cons se_int sa_nil))) (sa_cons se_non (sa_cons se_non (sa_cons (se_tup (sa_cons se_int (sa_cons (se_un o_neg se_int) sa_nil))) sa_nil)))))))))))))))
  (ss_one (st_ret (se_call (ok__law_pick t) (hr.mono (by decide)) rfl t.g__law_pick t.F__law_pick.kp (t.F__law_pick.binds fun _ _ _ _ _ _ us hl => match us, hl with | [_, _], _ => rfl) (takes_of rfl rfl rfl rfl) (sa_cons (se_var (pv 0)) (sa_cons (se_var (pv 1)) sa_nil))))))
theorem ok_Duel_check_first (t : Txt P K mg) : FnOk P w K mg base (L2.CX P w) 3 (He.ma K (He.ga K "Duel") "check_first") (fdOf K (He.ma K (He.ga K "Duel") "check_first")) ["self", "first"] (spEv ⟨K, (TT K).ca, (TT K).nm, (TT K).fld, P, w, (TT K).ex⟩ c_Duel_check_first) :=
  fn_ok (T := TT K) fin_ok t.F_Duel_check_first sc_Duel_check_first fun cdv A outer s H E hr => (ss_one (st_if (st_not (st_val (se_call (ok_is_integer t) (hr.mono (by decide)) rfl t.g_is_integer t.F_is_integer.kp (t.F_is_integer.binds fun _ _ _ _ _ _ us hl => match us, hl with | [_, _, _], _ => rfl) (takes_of rfl rfl rfl rfl) (sa_cons (se_var (pv 1)) (sa_cons se_int (sa_cons (se_con t.con_MOST_RATING) sa_nil)))))) (ss_one (st_raise (c := 4) rfl t.er_BadGame hr t.g_BadGame (takes_of rfl rfl rfl rfl) (se_var (pv 1)))) ss_nil))
theorem ok_is_table_row (t : Txt P K mg) : FnOk P w K mg base (L2.CX P w) 4 (He.ga K "is_table_row") (fdOf K (He.ga K "is_table_row")) ["value"] (spEv ⟨K, (TT K).ca, (TT K).nm, (TT K).fld, P, w, (TT K).ex⟩ c_is_table_row) :=
  fn_ok (T := TT K) fin_ok t.F_is_table_row sc_is_table_row fun cdv A outer s H E hr => (ss_cons (st_if (st_bool (sw_or (st_not (st_val (se_isi (b := .tuple) rfl t.z_isinstance (se_var (pv 0)) (ty_of t.z_tuple (by decide +kernel))))) (sw_or (st_cmp (o_ne hr.units) (se_it g_len t.z_len (by decide +kernel) (se_var (pv 0))) se_int (nomark _)) (sw_oneO (st_not (st_val (se_call (ok_is_integer t) (hr.mono (by decide)) rfl t.g_is_integer t.F_is_integer.kp (t.F_is_integer.binds fun _ _ _ _ _ _ us hl => match us, hl with | [_, _, _], _ => rfl) (takes_of rfl rfl rfl rfl) (sa_cons (se_ix (se_var (pv 0)) se_int) (sa_cons se_int (sa_cons (se_con t.con_MOST_RATING) sa_nil)))))))))) (ss_one (st_ret se_bl)) ss_nil)
  (ss_one (st_ret (se_ilL (g_all rfl) t.z_all (by decide +kernel) (sl_comp (own := [("entry", 1)]) (b := (gN 1)) rfl sc_is_table_row.nd (si_seq (se_cutA (se_var (pv 0)) (so_some se_int) so_none)) (blkOk_by (own := [("entry", 1)]) (N := N_is_table_row) (sc := defScope (top 13)) (by decide +kernel)) (fun _ _ _ _ _ => (pg_name (i := 1) sc_is_table_row.nd rfl (Or.inl rfl))) (gok_name (vs := [1]) (by simp)) (fun _ _ _ _ _ => sts_nil) (fun _ _ _ _ _ => (se_call (ok_is_entry t) (hr.mono (by decide)) rfl t.g_is_entry t.F_is_entry.kp (t.F_is_entry.binds fun _ _ _ _ _ _ us hl => match us, hl with | [_], _ => rfl) takes0 (sa_cons (se_var (pv 1)) sa_nil))))))))
theorem ok__law_duel_rows (t : Txt P K mg) : FnOk P w K mg base (L2.CX P w) 4 (He.ga K "_law_duel_rows") (fdOf K (He.ga K "_law_duel_rows")) ["_law_pool_here"] (spEv ⟨K, (TT K).ca, (TT K).nm, (TT K).fld, P, w, (TT K).ex⟩ c__law_duel_rows) :=
  fn_ok (T := TT K) fin_ok t.F__law_duel_rows sc__law_duel_rows fun cdv A outer s H E hr => (ss_cons (st_set (i := 1) sc__law_duel_rows.nd rfl (Or.inl rfl) (se_new (sl_lst (sa_cons (se_tup (sa_cons se_int (sa_cons (se_call (ok__law_entry t) (hr.mono (by decide)) rfl t.g__law_entry t.F__law_entry.kp (t.F__law_entry.binds fun _ _ _ _ _ _ us hl => match us, hl with | [_], _ => rfl) (takes_of rfl rfl rfl rfl) (sa_cons (se_var (pv 0)) sa_nil)) (sa_cons (se_call (ok__law_entry t) (hr.mono (by decide)) rfl t.g__law_entry t.F__law_entry.kp (t.F__law_entry.binds fun _ _ _ _ _ _ us hl => match us, hl with | [_], _ => rfl) (takes_of rfl rfl rfl rfl) (sa_cons (se_var (pv 0)) sa_nil)) (sa_cons (se_call (ok__law_entry t) (hr.mono (by decide)) rfl t.g__law_entry t.F__law_entry.kp (t.F__law_entry.binds fun _ _ _ _ _ _ us hl => match us, hl with | [_], _ => rfl) (takes_of rfl rfl rfl rfl) (sa_cons (se_var (pv 0)) sa_nil)) sa_nil))))) sa_nil))))
  (ss_cons (st_if (st_cmp (o_eq hr.units) (se_call (ok__law_draw t) (hr.mono (by decide)) rfl t.g__law_draw t.F__law_draw.kp (t.F__law_draw.binds fun _ _ _ _ _ _ us hl => match us, hl with | [_, _], _ => rfl) (takes_of rfl rfl rfl rfl) (sa_cons (se_var (pv 0)) (sa_cons se_int sa_nil))) se_int (nomark _)) (ss_one (st_ex (se_app (se_var (pv 1)) (se_tup (sa_cons (se_bin o_add se_int (se_call (ok__law_draw t) (hr.mono (by decide)) rfl t.g__law_draw t.F__law_draw.kp (t.F__law_draw.binds fun _ _ _ _ _ _ us hl => match us, hl with | [_, _], _ => rfl) (takes_of rfl rfl rfl rfl) (sa_cons (se_var (pv 0)) (sa_cons se_int sa_nil)))) (sa_cons (se_call (ok__law_entry t) (hr.mono (by decide)) rfl t.g__law_entry t.F__law_entry.kp (t.F__law_entry.binds fun _ _ _ _ _ _ us hl => match us, hl with | [_], _ => rfl) (takes_of rfl rfl rfl rfl) (sa_cons (se_var (pv 0)) sa_nil)) (sa_cons (se_call (ok__law_entry t) (hr.mono (by decide)) rfl t.g__law_entry t.F__law_entry.kp (t.F__law_entry.binds fun _ _ _ _ _ _ us hl => match us, hl with | [_], _ => rfl) (takes_of rfl rfl rfl rfl) (sa_cons (se_var (pv 0)) sa_nil)) (sa_cons (se_call (ok__law_entry t) (hr.mono (by decide)) rfl t.g__law_entry t.F__law_entry.kp (t.F__law_entry.binds fun _ _ _ _ _ _ us hl => match us, hl with | [_], _ => rfl) (takes_of rfl rfl rfl rfl) (sa_cons (se_var (pv 0)) sa_nil)) sa_nil)))))))) ss_nil)
  (ss_one (st_ret (se_var (pv 1))))))
theorem ok_Duel_step (t : Txt P K mg) : FnOk P w K mg base (L2.CX P w) 4 (He.ma K (He.ga K "Duel") "step") (fdOf K (He.ma K (He.ga K "Duel") "step")) ["self", "difference", "result"] (spEv ⟨K, (TT K).ca, (TT K).nm, (TT K).fld, P, w, (TT K).ex⟩ c_Duel_step) :=
  fn_ok (T := TT K) fin_ok t.F_Duel_step sc_Duel_step fun cdv A outer s H E hr => (ss_cons (st_set (i := 3) sc_Duel_step.nd rfl (Or.inl rfl) (se_ixO (c := 34) t.du_Duel___getitem__ (ok_Duel___getitem__ t) (hr.mono (by decide)) (t.F_Duel___getitem__.binds fun _ _ _ _ _ _ us hl => match us, hl with | [_, _], _ => rfl) (takes_of rfl rfl rfl rfl) (se_var (pv 0)) (se_var (pv 1))))
  (ss_cons (st_if (st_not (st_val (se_call (ok_is_result t) (hr.mono (by decide)) rfl t.g_is_result t.F_is_result.kp (t.F_is_result.binds fun _ _ _ _ _ _ us hl => match us, hl with | [_], _ => rfl) (takes_of rfl rfl rfl rfl) (sa_cons (se_var (pv 2)) sa_nil)))) (ss_one (st_raise (c := 4) rfl t.er_BadGame hr t.g_BadGame (takes_of rfl rfl rfl rfl) (se_var (pv 2)))) ss_nil)
  (ss_cons (st_set (i := 4) sc_Duel_step.nd rfl (Or.inl rfl) (se_ix (se_var (pv 3)) (se_bin o_add se_int (se_idxC (ys := ["upper", "draw", "lower"]) t.con_RESULTS t.td_RESULTS (se_var (pv 2))))))
  (ss_cons (st_if (st_cmp o_is (se_var (pv 4)) se_non (nomark _)) (ss_one (st_ret se_non)) ss_nil)
  (ss_one (st_ret (se_tup (sa_cons (se_cb g_abs t.z_abs (by decide +kernel) (sa_cons (se_bin o_sub (se_bin o_add (se_var (pv 1)) (se_ix (se_var (pv 4)) se_int)) (se_ix (se_var (pv 4)) se_int)) sa_nil)) (sa_cons (se_bin o_add (se_ix (se_var (pv 4)) se_int) (se_ix (se_var (pv 4)) se_int)) sa_nil)))))))))
theorem ok_is_table (t : Txt P K mg) : FnOk P w K mg base (L2.CX P w) 5 (He.ga K "is_table") (fdOf K (He.ga K "is_table")) ["value"] (spEv ⟨K, (TT K).ca, (TT K).nm, (TT K).fld, P, w, (TT K).ex⟩ c_is_table) :=
  fn_ok (T := TT K) fin_ok t.F_is_table sc_is_table fun cdv A outer s H E hr => (ss_cons (st_if (st_bool (sw_or (st_not (st_val (se_isi2 (b := .list) (c := .tuple) rfl t.z_isinstance (se_var (pv 0)) (ty_of t.z_list (by decide +kernel)) (ty_of t.z_tuple (by decide +kernel))))) (sw_oneO (st_not (st_chain2 o_le o_le se_int (se_it g_len t.z_len (by decide +kernel) (se_var (pv 0))) (se_con t.con_MOST_ROWS)))))) (ss_one (st_ret se_bl)) ss_nil)
  (ss_cons (st_if (st_bool (sw_or (st_not (st_val (se_ilL (g_all rfl) t.z_all (by decide +kernel) (sl_comp (own := [("row", 1)]) (b := (gN 1)) rfl sc_is_table.nd (si_seq (se_var (pv 0))) (blkOk_by (own := [("row", 1)]) (N := N_is_table) (sc := defScope (top 14)) (by decide +kernel)) (fun _ _ _ _ _ => (pg_name (i := 1) sc_is_table.nd rfl (Or.inl rfl))) (gok_name (vs := [1]) (by simp)) (fun _ _ _ _ _ => sts_nil) (fun _ _ _ _ _ => (se_call (ok_is_table_row t) (hr.mono (by decide)) rfl t.g_is_table_row t.F_is_table_row.kp (t.F_is_table_row.binds fun _ _ _ _ _ _ us hl => match us, hl with | [_], _ => rfl) takes0 (sa_cons (se_var (pv 1)) sa_nil))))))) (sw_oneO (st_cmp (o_ne hr.units) (se_ix (se_ix (se_var (pv 0)) se_int) se_int) se_int (nomark _))))) (ss_one (st_ret se_bl)) ss_nil)
  (ss_one (st_ret (se_ilL (g_all rfl) t.z_all (by decide +kernel) (sl_comp (own := [("one", 2), ("other", 3)]) (b := (gT [2, 3])) rfl sc_is_table.nd (si_zipW rfl t.z_zip (sa_cons (se_var (pv 0)) (sa_cons (se_cutA (se_var (pv 0)) (so_some se_int) so_none) sa_nil))) (blkOk_by (own := [("one", 2), ("other", 3)]) (N := N_is_table) (sc := defScope (top 14)) (by decide +kernel)) (fun _ _ _ _ _ => (pg_tup (n := 2) (t := gsNames [2, 3]) rfl (pgs_cons (pg_name (i := 2) sc_is_table.nd rfl (Or.inl rfl)) (pgs_cons (pg_name (i := 3) sc_is_table.nd rfl (Or.inl rfl)) pgs_nil)))) (gok_tup (is := [2, 3]) (vs := [2, 3]) (by simp)) (fun _ _ _ _ _ => sts_nil) (fun _ _ _ _ _ => (se_cmp o_lt (se_ix (se_var (pv 2)) se_int) (se_ix (se_var (pv 3)) se_int) (nomark _)))))))))
theorem ok_Duel_play_C (t : Txt P K mg) : GFnC P w K mg base 5 (He.ma K (He.ga K "Duel") "play") (fdOf K (He.ma K (He.ga K "Duel") "play")) ["self", "first", "results"] (spCo ⟨K, (TT K).ca, (TT K).nm, (TT K).fld, P, w, (TT K).ex⟩ c_Duel_play_C) :=
  cfn_ok (T := TT K) t.F_Duel_play sc_Duel_play_C (by decide +kernel) fun cdv A outer n0 a go hr0 fo => (cn_cons (cn_pl (fun s H E hs => (st_ex (se_meth (c := 34) (n := 25) nmOk (by decide) rfl t.own_Duel.cl t.me_Duel_check_first (ok_Duel_check_first t) ((hr0.deeper _).mono (by decide)) (t.F_Duel_check_first.binds fun _ _ _ _ _ _ us hl => match us, hl with | [_, _], _ => rfl) takes_gcx (se_var (pv 0)) (sa_cons (se_var (pv 1)) sa_nil)))))
  (cn_cons (cn_pl (fun s H E hs => (st_set (i := 3) sc_Duel_play_C.nd rfl (Or.inl rfl) (se_tit g_tuple t.z_tuple (by decide +kernel) (se_var (pv 2))))))
  (cn_cons (cn_pl (fun s H E hs => (st_par2 (i := 4) (j := 5) rfl sc_Duel_play_C.nd rfl rfl (by decide) rfl rfl (sa_cons (se_var (pv 1)) (sa_cons se_int sa_nil)) (by rfl))))
  (cn_cons (cn_yield fo (fun s H E hs => (se_tup (sa_cons (se_var (pv 4)) (sa_cons (se_var (pv 5)) sa_nil)))) rfl)
  (cn_cons (cn_for fo (fun s H E hs => (si_enumS rfl t.z_enumerate (se_var (pv 3)))) (fun s H E hs => (pg_tup (n := 2) (t := gsNames [6, 7]) rfl (pgs_cons (pg_name (i := 6) sc_Duel_play_C.nd rfl (Or.inl rfl)) (pgs_cons (pg_name (i := 7) sc_Duel_play_C.nd rfl (Or.inl rfl)) pgs_nil)))) (gok_tup (is := [6, 7]) (vs := [6, 7]) (by simp)) (cn_cons (cn_pl (fun s H E hs => (st_set (i := 8) sc_Duel_play_C.nd rfl (Or.inl rfl) (se_if (st_val (se_call (ok_is_result t) ((hr0.deeper _).mono (by decide)) rfl t.g_is_result t.F_is_result.kp (t.F_is_result.binds fun _ _ _ _ _ _ us hl => match us, hl with | [_], _ => rfl) takes_gcx (sa_cons (se_var (pv 7)) sa_nil))) (se_meth (c := 34) (n := 26) nmOk (by decide) rfl t.own_Duel.cl t.me_Duel_step (ok_Duel_step t) ((hr0.deeper _).mono (by decide)) (t.F_Duel_step.binds fun _ _ _ _ _ _ us hl => match us, hl with | [_, _, _], _ => rfl) takes_gcx (se_var (pv 0)) (sa_cons (se_var (pv 4)) (sa_cons (se_var (pv 7)) sa_nil))) se_non))))
  (cn_cons (cn_pl (fun s H E hs => (st_if (st_cmp o_is (se_var (pv 8)) se_non (nomark _)) (ss_one (st_raise (c := 4) rfl t.er_BadGame (hr0.deeper _) t.g_BadGame takes_gcx (se_var (pv 6)))) ss_nil)))
  (cn_cons (cn_pl (fun s H E hs => (st_par2 (i := 4) (j := 5) rfl sc_Duel_play_C.nd rfl rfl (by decide) rfl rfl (sa_cons (se_ix (se_var (pv 8)) se_int) (sa_cons (se_bin o_add (se_var (pv 5)) (se_ix (se_var (pv 8)) se_int)) sa_nil)) (by rfl))))
  (cn_cons (cn_yield fo (fun s H E hs => (se_tup (sa_cons (se_var (pv 4)) (sa_cons (se_var (pv 5)) sa_nil)))) rfl)
  cn_nil)))))
  cn_nil)))))
theorem ok_Duel___init__ (t : Txt P K mg) : FnOk P w K mg base (L2.CX P w) 6 (He.ma K (He.ga K "Duel") "__init__") (fdOf K (He.ma K (He.ga K "Duel") "__init__")) ["self", "table"] (spEv ⟨K, (TT K).ca, (TT K).nm, (TT K).fld, P, w, (TT K).ex⟩ c_Duel___init__) :=
  fn_ok (T := TT K) fin_ok t.F_Duel___init__ sc_Duel___init__ fun cdv A outer s H E hr => (ss_cons (st_if (st_not (st_val (se_call (ok_is_table t) (hr.mono (by decide)) rfl t.g_is_table t.F_is_table.kp (t.F_is_table.binds fun _ _ _ _ _ _ us hl => match us, hl with | [_], _ => rfl) (takes_of rfl rfl rfl rfl) (sa_cons (se_var (pv 1)) sa_nil)))) (ss_one (st_raise (c := 2) rfl t.er_BadBook hr t.g_BadBook (takes_of rfl rfl rfl rfl) se_str)) ss_nil)
  (ss_cons (st_fld nmOk (by decide) rfl (fun c hc => by cases Nat.eq_of_beq_eq_true hc; exact ⟨t.own_Duel.cl, t.na_Duel_table⟩) (se_var (pv 0)) (se_tit g_tuple t.z_tuple (by decide +kernel) (se_var (pv 1))))
  (ss_cons (st_setLc2F (i := 2) (own := [("row", 3), ("entry", 4)]) rfl sc_Duel___init__.nd rfl rfl rfl (si_seq (se_fld nmOk (by decide) rfl (fun c hc => by cases Nat.eq_of_beq_eq_true hc; exact ⟨t.own_Duel.cl, t.na_Duel_table⟩) (se_var (pv 0)))) (blkOk_by (own := [("row", 3), ("entry", 4)]) (N := N_Duel___init__) (sc := defScope (inClass (top 18) 0)) (by decide +kernel)) (by decide) (fun _ _ _ _ _ => (pg_name (i := 3) sc_Duel___init__.nd rfl (Or.inl rfl))) (gok_name (vs := [3, 4]) (by simp)) (fun _ _ _ _ _ => sts_nil) (fun _ _ _ _ _ => (si_seq (se_cutA (se_var (pv 3)) (so_some se_int) so_none))) (fun _ _ _ _ _ => (pg_name (i := 4) sc_Duel___init__.nd rfl (Or.inl rfl))) (gok_name (vs := [4]) (by simp)) (fun _ _ _ _ _ => (sts_one (st_cmp o_isNot (se_var (pv 4)) se_non (nomark _)))) (fun _ _ _ _ _ => (se_ct g_int t.z_int (by decide +kernel) (sa_cons (se_cb g_abs t.z_abs (by decide +kernel) (sa_cons (se_bin o_sub (se_ix (se_var (pv 4)) se_int) (se_ix (se_var (pv 4)) se_int)) sa_nil)) sa_nil))))
  (ss_cons (st_fld nmOk (by decide) rfl (fun c hc => by cases Nat.eq_of_beq_eq_true hc; exact ⟨t.own_Duel.cl, t.na_Duel_span⟩) (se_var (pv 0)) (se_if (st_cmp (o_eq hr.units) (se_var (pv 2)) (se_lst (sl_lst sa_nil)) (nomark _)) se_int (se_ilL (g_max rfl) t.z_max (by decide +kernel) (sl_comp (own := [("part", 5)]) (b := (gN 5)) rfl sc_Duel___init__.nd (si_seq (se_var (pv 2))) (blkOk_by (own := [("part", 5)]) (N := N_Duel___init__) (sc := defScope (inClass (top 18) 0)) (by decide +kernel)) (fun _ _ _ _ _ => (pg_name (i := 5) sc_Duel___init__.nd rfl (Or.inl rfl))) (gok_name (vs := [5]) (by simp)) (fun _ _ _ _ _ => sts_nil) (fun _ _ _ _ _ => (se_ct g_int t.z_int (by decide +kernel) (sa_cons (se_var (pv 5)) sa_nil)))))))
  (ss_one (st_fld nmOk (by decide) rfl (fun c hc => by cases Nat.eq_of_beq_eq_true hc; exact ⟨t.own_Duel.cl, t.na_Duel_far⟩) (se_var (pv 0)) (se_cb (g_max2 rfl) t.z_max (by decide +kernel) (sa_cons (se_ct g_int t.z_int (by decide +kernel) (sa_cons (se_fld nmOk (by decide) rfl (fun c hc => by cases Nat.eq_of_beq_eq_true hc; exact ⟨t.own_Duel.cl, t.na_Duel_span⟩) (se_var (pv 0))) sa_nil)) (sa_cons (se_ct g_int t.z_int (by decide +kernel) (sa_cons (se_ix (se_ix (se_fld nmOk (by decide) rfl (fun c hc => by cases Nat.eq_of_beq_eq_true hc; exact ⟨t.own_Duel.cl, t.na_Duel_table⟩) (se_var (pv 0))) (se_un o_neg se_int)) se_int) sa_nil)) sa_nil)))))))))
theorem ok__law_heard (t : Txt P K mg) : FnG P w K mg base (L2.CX P w) 7 (He.ga K "_law_heard") (fdOf K (He.ga K "_law_heard")) ["_law_duel", "_law_first", "_law_results"] (spEv ⟨K, (TT K).ca, (TT K).nm, (TT K).fld, P, w, (TT K).ex⟩ c__law_heard) :=
  fnG_ok (T := TT K) fin_ok t.F__law_heard sc__law_heard fun cdv A outer s H E hr hG => (ss_cons (st_set (i := 3) sc__law_heard.nd rfl (Or.inl rfl) (se_new (sl_lst sa_nil)))
  (ss_cons (st_tryMX xg_cx (i := 5) rfl rfl rfl sc__law_heard.nd rfl rfl (takes_of rfl rfl rfl rfl) (fun W pn xe tk po xg => (ss_one (st_forCm (c := 34) (n := 24) nmOk (by decide) rfl t.own_Duel.cl t.me_Duel_play (ok_Duel_play_C t) po xg rfl (hr.mono (by decide)) (t.F_Duel_play.binds fun _ _ _ _ _ _ us hl => match us, hl with | [_, _, _], _ => rfl) tk (okE_ok t) (se_var (pv 0)) (sa_cons (se_var (pv 1)) (sa_cons (se_var (pv 2)) sa_nil)) (pg_name (i := 4) sc__law_heard.nd rfl (Or.inl rfl)) (gok_name (vs := [4]) (by simp)) (ss_one (st_ex (se_app (se_var (pv 3)) (se_var (pv 4))))))))
 (.cons (cv := .ref ((TT K).ca 4)) ⟨rfl, by decide, Or.inl t.g_BadGame⟩ (fun c b h => match c, h with | 0, h => nomatch h | 1, h => nomatch h | 2, h => by cases h; exact t.exm_2_BadGame | 3, h => nomatch h | 4, h => by cases h; exact t.exm_4_BadGame | 5, h => nomatch h | 6, h => nomatch h | 7, h => nomatch h | 8, h => nomatch h | 9, h => nomatch h | 10, h => nomatch h | 11, h => nomatch h | 12, h => nomatch h | 13, h => nomatch h | 14, h => nomatch h | 15, h => nomatch h | 16, h => nomatch h | 17, h => nomatch h | 18, h => nomatch h | 19, h => nomatch h | 20, h => nomatch h | 21, h => nomatch h | 22, h => nomatch h | 23, h => nomatch h | 24, h => nomatch h | 25, h => nomatch h | 26, h => nomatch h | (m + 27), h => nomatch h)
 (fun a oe c dx pn hc hz hff => match c, hc, hz with | 0, hc, _ => absurd hc (by decide) | 1, hc, _ => absurd hc (by decide) | 2, hc, _ => absurd hc (by decide) | 3, hc, _ => absurd hc (by decide) | 4, _, hz => (ss_one (st_ret (se_lst (sl_lst (sa_cons (se_var (pv 3)) (sa_cons (se_cb (g_reprD hG (by have z := u70 hr; exact z)) t.z_repr (by decide +kernel) (sa_cons (se_xf t.xf_4.1 t.no_4 rfl hz hff (se_var (pv 5))) sa_nil)) sa_nil)))))) | 5, hc, _ => absurd hc (by decide) | 6, hc, _ => absurd hc (by decide) | 7, hc, _ => absurd hc (by decide) | 8, hc, _ => absurd hc (by decide) | 9, hc, _ => absurd hc (by decide) | 10, hc, _ => absurd hc (by decide) | 11, hc, _ => absurd hc (by decide) | 12, hc, _ => absurd hc (by decide) | 13, hc, _ => absurd hc (by decide) | 14, hc, _ => absurd hc (by decide) | 15, hc, _ => absurd hc (by decide) | 16, hc, _ => absurd hc (by decide) | 17, hc, _ => absurd hc (by decide) | 18, hc, _ => absurd hc (by decide) | 19, hc, _ => absurd hc (by decide) | 20, hc, _ => absurd hc (by decide) | 21, hc, _ => absurd hc (by decide) | 22, hc, _ => absurd hc (by decide) | 23, hc, _ => absurd hc (by decide) | 24, hc, _ => absurd hc (by decide) | 25, hc, _ => absurd hc (by decide) | 26, hc, _ => absurd hc (by decide) | (m + 27), hc, _ => absurd hc (fun h => nomatch h))
 .nil))
  (ss_one (st_ret (se_lst (sl_lst (sa_cons (se_var (pv 3)) (sa_cons se_non sa_nil))))))))
theorem ok__law_kept (t : Txt P K mg) : FnOk P w K mg base (L2.CX P w) 7 (He.ga K "_law_kept") (fdOf K (He.ga K "_law_kept")) ["_law_duel", "_law_first", "_law_results"] (spEv ⟨K, (TT K).ca, (TT K).nm, (TT K).fld, P, w, (TT K).ex⟩ c__law_kept) :=
  fn_ok (T := TT K) fin_ok t.F__law_kept sc__law_kept fun cdv A outer s H E hr => (ss_cons (st_par2 (i := 3) (j := 4) rfl sc__law_kept.nd rfl rfl (by decide) rfl rfl (sa_cons (se_new (sl_list t.z_list (se_var (pv 2)))) (sa_cons (se_new (sl_lst sa_nil)) sa_nil)) (by rfl))
  (ss_cons (st_forCm (c := 34) (n := 24) nmOk (by decide) rfl t.own_Duel.cl t.me_Duel_play (ok_Duel_play_C t) (passes_of rfl) xg_cx rfl (hr.mono (by decide)) (t.F_Duel_play.binds fun _ _ _ _ _ _ us hl => match us, hl with | [_, _, _], _ => rfl) (takes_of rfl rfl rfl rfl) (okE_ok t) (se_var (pv 0)) (sa_cons (se_var (pv 1)) (sa_cons (se_var (pv 3)) sa_nil)) (pg_name (i := 5) sc__law_kept.nd rfl (Or.inl rfl)) (gok_name (vs := [5]) (by simp)) (ss_cons (st_ex (se_app (se_var (pv 4)) (se_var (pv 5))))
  (ss_one (st_ex (se_call (ok__law_emptied t) (hr.mono (by decide)) rfl t.g__law_emptied t.F__law_emptied.kp (t.F__law_emptied.binds fun _ _ _ _ _ _ us hl => match us, hl with | [_], _ => rfl) (takes_of rfl rfl rfl rfl) (sa_cons (se_var (pv 3)) sa_nil))))))
  (ss_one (st_ret (se_var (pv 4))))))
theorem ok_law (t : Txt P K mg) : FnG P w K mg base (L2.CX P w) 8 (He.ga K "law") (fdOf K (He.ga K "law")) ["_law_script"] (spEv ⟨K, (TT K).ca, (TT K).nm, (TT K).fld, P, w, (TT K).ex⟩ c_law) :=
  fnG_ok (T := TT K) fin_ok t.F_law sc_law fun cdv A outer s H E hr hG => (ss_cons (st_forK [1, 2, 3, 4, 5, 6, 7, 8, 9, 10, 11, 12, 13, 14, 15, 16, 17, 18] (passes_of rfl) rfl (si_enumS rfl t.z_enumerate (se_bin o_add (se_lst (sl_cut (se_var (pv 0)) so_none (so_some se_int))) (se_bin o_mul (se_lst (sl_lst (sa_cons se_int sa_nil))) (se_ct g_int t.z_int (by decide +kernel) (sa_cons (se_cmp (o_eq hr.units) (se_var (pv 0)) (se_lst (sl_lst sa_nil)) (nomark _)) sa_nil))))) (pg_tup (n := 2) (t := gsNames [1, 2]) rfl (pgs_cons (pg_name (i := 1) sc_law.nd rfl (Or.inl rfl)) (pgs_cons (pg_name (i := 2) sc_law.nd rfl (Or.inl rfl)) pgs_nil))) (gok_tup (is := [1, 2]) (vs := [1, 2]) (by simp)) (ss_cons (st_set (i := 3) sc_law.nd rfl (Or.inr rfl) (se_call (ok__law_pool t) (hr.mono (by decide)) rfl t.g__law_pool t.F__law_pool.kp (t.F__law_pool.binds fun _ _ _ _ _ _ us hl => match us, hl with | [_, _, _], _ => rfl) (takes_of rfl rfl rfl rfl) (sa_cons (se_var (pv 2)) (sa_cons (se_bin o_add se_int (se_var (pv 1))) (sa_cons se_int sa_nil)))))
  (ss_cons (st_par2 (i := 4) (j := 5) rfl sc_law.nd rfl rfl (by decide) rfl rfl (sa_cons (se_call (ok__law_duel_rows t) (hr.mono (by decide)) rfl t.g__law_duel_rows t.F__law_duel_rows.kp (t.F__law_duel_rows.binds fun _ _ _ _ _ _ us hl => match us, hl with | [_], _ => rfl) (takes_of rfl rfl rfl rfl) (sa_cons (se_var (pv 3)) sa_nil)) (sa_cons (se_call (ok__law_draw t) (hr.mono (by decide)) rfl t.g__law_draw t.F__law_draw.kp (t.F__law_draw.binds fun _ _ _ _ _ _ us hl => match us, hl with | [_, _], _ => rfl) (takes_of rfl rfl rfl rfl) (sa_cons (se_var (pv 3)) (sa_cons se_int sa_nil))) sa_nil)) (by rfl))
  (ss_cons (st_set (i := 6) sc_law.nd rfl (Or.inl rfl) (se_make (c := 34) fin_ok t.g_Duel t.mk_Duel (ok_Duel___init__ t) (hr.mono (by decide)) (t.F_Duel___init__.binds fun _ _ _ _ _ _ us hl => match us, hl with | [_, _], _ => rfl) (takes_of rfl rfl rfl rfl) (sa_cons (se_var (pv 4)) sa_nil)))
  (ss_cons (st_setLcF (i := 7) (own := [("_law_turn", 19)]) (b := (gN 19)) rfl sc_law.nd rfl rfl rfl (si_range1 rfl t.z_range (sa_cons (se_call (ok__law_draw t) (hr.mono (by decide)) rfl t.g__law_draw t.F__law_draw.kp (t.F__law_draw.binds fun _ _ _ _ _ _ us hl => match us, hl with | [_, _], _ => rfl) (takes_of rfl rfl rfl rfl) (sa_cons (se_var (pv 3)) (sa_cons se_int sa_nil))) sa_nil)) (blkOk_by (own := [("_law_turn", 19)]) (N := N_law) (sc := defScope (top 30)) (by decide +kernel)) (fun _ _ _ _ _ => (pg_name (i := 19) sc_law.nd rfl (Or.inl rfl))) (gok_name (vs := [19]) (by simp)) (fun _ _ _ _ _ => sts_nil) (fun _ _ _ _ _ => (se_call (ok__law_pick t) (hr.mono (by decide)) rfl t.g__law_pick t.F__law_pick.kp (t.F__law_pick.binds fun _ _ _ _ _ _ us hl => match us, hl with | [_, _], _ => rfl) takes0 (sa_cons (se_var (pv 3)) (sa_cons (se_lst (sl_lst (sa_cons se_str (sa_cons se_str (sa_cons se_str sa_nil))))) sa_nil)))))
  (ss_cons (st_set (i := 8) sc_law.nd rfl (Or.inl rfl) (se_call (ok__law_pick t) (hr.mono (by decide)) rfl t.g__law_pick t.F__law_pick.kp (t.F__law_pick.binds fun _ _ _ _ _ _ us hl => match us, hl with | [_, _], _ => rfl) (takes_of rfl rfl rfl rfl) (sa_cons (se_var (pv 3)) (sa_cons (se_lst (sl_lst (sa_cons se_non (sa_cons se_str (sa_cons se_int (sa_cons (se_lst (sl_lst (sa_cons se_str sa_nil))) (sa_cons se_str (sa_cons (se_tup (sa_cons se_str sa_nil)) sa_nil)))))))) sa_nil))))
  (ss_cons (st_set (i := 9) sc_law.nd rfl (Or.inl rfl) (se_call (ok__law_draw t) (hr.mono (by decide)) rfl t.g__law_draw t.F__law_draw.kp (t.F__law_draw.binds fun _ _ _ _ _ _ us hl => match us, hl with | [_, _], _ => rfl) (takes_of rfl rfl rfl rfl) (sa_cons (se_var (pv 3)) (sa_cons (se_bin o_add (se_it g_len t.z_len (by decide +kernel) (se_var (pv 7))) se_int) sa_nil))))
  (ss_cons (st_forK [10, 11, 12, 13, 14, 15, 16, 17] (passes_of rfl) rfl (si_tmp (sl_lst (sa_cons (se_var (pv 7)) (sa_cons (se_tit g_tuple t.z_tuple (by decide +kernel) (se_var (pv 7))) (sa_cons (se_bin o_add (se_bin o_add (se_cutA (se_var (pv 7)) so_none (so_some (se_var (pv 9)))) (se_lst (sl_lst (sa_cons (se_var (pv 8)) sa_nil)))) (se_cutA (se_var (pv 7)) (so_some (se_var (pv 9))) so_none)) sa_nil))))) (pg_name (i := 10) sc_law.nd rfl (Or.inl rfl)) (gok_name (vs := [10]) (by simp)) (ss_cons (st_asg (pg_tup (n := 4) (t := gsNames [11, 12, 13, 14]) rfl (pgs_cons (pg_name (i := 11) sc_law.nd rfl (Or.inl rfl)) (pgs_cons (pg_name (i := 12) sc_law.nd rfl (Or.inl rfl)) (pgs_cons (pg_name (i := 13) sc_law.nd rfl (Or.inl rfl)) (pgs_cons (pg_name (i := 14) sc_law.nd rfl (Or.inl rfl)) pgs_nil))))) (gok_tup (is := [11, 12, 13, 14]) (vs := [11, 12, 13, 14]) (by simp)) (se_tup (sa_cons (se_var (pv 5)) (sa_cons se_int (sa_cons (se_new (sl_lst (sa_cons (se_tup (sa_cons (se_var (pv 5)) (sa_cons se_int sa_nil))) sa_nil))) (sa_cons se_non sa_nil))))))
  (ss_cons (st_forK [15, 16, 17] (passes_of rfl) rfl (si_enumS rfl t.z_enumerate (se_var (pv 10))) (pg_tup (n := 2) (t := gsNames [15, 16]) rfl (pgs_cons (pg_name (i := 15) sc_law.nd rfl (Or.inl rfl)) (pgs_cons (pg_name (i := 16) sc_law.nd rfl (Or.inl rfl)) pgs_nil))) (gok_tup (is := [15, 16]) (vs := [15, 16]) (by simp)) (ss_cons (st_set (i := 17) sc_law.nd rfl (Or.inl rfl) (se_if (st_cmp (o_in (u65 hr)) (se_var (pv 16)) (se_lst (sl_lst (sa_cons se_str (sa_cons se_str (sa_cons se_str sa_nil))))) (by with_unfolding_all rfl)) (se_call (ok__law_step t) (hr.mono (by decide)) rfl t.g__law_step t.F__law_step.kp (t.F__law_step.binds fun _ _ _ _ _ _ us hl => match us, hl with | [_, _, _], _ => rfl) (takes_of rfl rfl rfl rfl) (sa_cons (se_var (pv 4)) (sa_cons (se_var (pv 11)) (sa_cons (se_var (pv 16)) sa_nil)))) se_non))
  (ss_cons (st_if (st_bool (sw_and (st_cmp o_is (se_var (pv 17)) se_non (nomark _)) (sw_one (st_cmp o_is (se_var (pv 14)) se_non (nomark _))))) (ss_one (st_set (i := 14) sc_law.nd rfl (Or.inl rfl) (se_cb (g_reprD hG (by have z := u70 hr; exact z)) t.z_repr (by decide +kernel) (sa_cons (se_var (pv 15)) sa_nil)))) ss_nil)
  (ss_one (st_if (st_cmp o_is (se_var (pv 14)) se_non (nomark _)) (ss_cons (st_par2 (i := 11) (j := 12) rfl sc_law.nd rfl rfl (by decide) rfl rfl (sa_cons (se_ix (se_var (pv 17)) se_int) (sa_cons (se_bin o_add (se_var (pv 12)) (se_ix (se_var (pv 17)) se_int)) sa_nil)) (by rfl))
  (ss_one (st_ex (se_app (se_var (pv 13)) (se_tup (sa_cons (se_var (pv 11)) (sa_cons (se_var (pv 12)) sa_nil))))))) ss_nil)))))
  (ss_one (st_if (st_cmp (o_ne hr.units) (se_callG (ok__law_heard t) (hr.mono (by decide)) hG rfl t.g__law_heard t.F__law_heard.kp (t.F__law_heard.binds fun _ _ _ _ _ _ us hl => match us, hl with | [_, _, _], _ => rfl) (takes_of rfl rfl rfl rfl) (sa_cons (se_var (pv 6)) (sa_cons (se_var (pv 5)) (sa_cons (se_var (pv 10)) sa_nil)))) (se_lst (sl_lst (sa_cons (se_var (pv 13)) (sa_cons (se_var (pv 14)) sa_nil)))) (nomark _)) (ss_one (st_ret se_bl)) ss_nil)))))
  (ss_cons (st_set (i := 17) sc_law.nd rfl (Or.inl rfl) (se_callG (ok__law_heard t) (hr.mono (by decide)) hG rfl t.g__law_heard t.F__law_heard.kp (t.F__law_heard.binds fun _ _ _ _ _ _ us hl => match us, hl with | [_, _, _], _ => rfl) (takes_of rfl rfl rfl rfl) (sa_cons (se_var (pv 6)) (sa_cons (se_var (pv 5)) (sa_cons (se_var (pv 7)) sa_nil)))))
  (ss_cons (st_if (st_bool (sw_and (st_cmp o_is (se_ix (se_var (pv 17)) se_int) se_non (nomark _)) (sw_one (st_cmp (o_ne hr.units) (se_call (ok__law_kept t) (hr.mono (by decide)) rfl t.g__law_kept t.F__law_kept.kp (t.F__law_kept.binds fun _ _ _ _ _ _ us hl => match us, hl with | [_, _, _], _ => rfl) (takes_of rfl rfl rfl rfl) (sa_cons (se_var (pv 6)) (sa_cons (se_var (pv 5)) (sa_cons (se_var (pv 7)) sa_nil)))) (se_ix (se_var (pv 17)) se_int) (nomark _))))) (ss_one (st_ret se_bl)) ss_nil)
  (ss_one (st_forK [18] (passes_of rfl) rfl (si_tmp (sl_lst (sa_cons se_non (sa_cons (se_un o_neg se_int) (sa_cons se_int (sa_cons se_bl sa_nil)))))) (pg_name (i := 18) sc_law.nd rfl (Or.inl rfl)) (gok_name (vs := [18]) (by simp)) (ss_one (st_if (st_cmp (o_ne hr.units) (se_callG (ok__law_heard t) (hr.mono (by decide)) hG rfl t.g__law_heard t.F__law_heard.kp (t.F__law_heard.binds fun _ _ _ _ _ _ us hl => match us, hl with | [_, _, _], _ => rfl) (takes_of rfl rfl rfl rfl) (sa_cons (se_var (pv 6)) (sa_cons (se_var (pv 18)) (sa_cons (se_var (pv 7)) sa_nil)))) (se_lst (sl_lst (sa_cons (se_lst (sl_lst sa_nil)) (sa_cons (se_cb (g_reprD hG (by have z := u70 hr; exact z)) t.z_repr (by decide +kernel) (sa_cons (se_var (pv 18)) sa_nil)) sa_nil)))) (nomark _)) (ss_one (st_ret se_bl)) ss_nil))))))))))))))
  (ss_one (st_ret se_bl)))
end
end K41
end
section
set_option maxRecDepth 100000
set_option maxHeartbeats 0
namespace K41
open PySem L2 Lad
theorem txt {K : PySem.W.Frag} {h : Heap} {mg : Str → Option Value} (X : K.In h) (G : h.Ns mainGlobals mg) (c : SaysL fa fn er K) : Txt P0 K mg where
  z_abs := He.free_ok X G (c.fact 0 (f := (He.Fa.free "abs").ok) rfl)
  z_all := He.free_ok X G (c.fact 1 (f := (He.Fa.free "all").ok) rfl)
  z_bool := He.free_ok X G (c.fact 2 (f := (He.Fa.free "bool").ok) rfl)
  z_enumerate := He.free_ok X G (c.fact 3 (f := (He.Fa.free "enumerate").ok) rfl)
  z_int := He.free_ok X G (c.fact 4 (f := (He.Fa.free "int").ok) rfl)
  z_isinstance := He.free_ok X G (c.fact 5 (f := (He.Fa.free "isinstance").ok) rfl)
  z_len := He.free_ok X G (c.fact 6 (f := (He.Fa.free "len").ok) rfl)
  z_list := He.free_ok X G (c.fact 7 (f := (He.Fa.free "list").ok) rfl)
  z_max := He.free_ok X G (c.fact 8 (f := (He.Fa.free "max").ok) rfl)
  z_range := He.free_ok X G (c.fact 9 (f := (He.Fa.free "range").ok) rfl)
  z_repr := He.free_ok X G (c.fact 10 (f := (He.Fa.free "repr").ok) rfl)
  z_str := He.free_ok X G (c.fact 11 (f := (He.Fa.free "str").ok) rfl)
  z_tuple := He.free_ok X G (c.fact 12 (f := (He.Fa.free "tuple").ok) rfl)
  z_zip := He.free_ok X G (c.fact 13 (f := (He.Fa.free "zip").ok) rfl)
  F_is_whole := fun_of (d := d_is_whole) rfl (c.fn_ 0 rfl).1 (c.fn_ 0 rfl).2
  g_is_whole := He.glo_ok X G (c.fact 14 (f := (He.Fa.glo "is_whole").ok) rfl)
  F_row_at := fun_of (d := d_row_at) rfl (c.fn_ 1 rfl).1 (c.fn_ 1 rfl).2
  g_row_at := He.glo_ok X G (c.fact 15 (f := (He.Fa.glo "row_at").ok) rfl)
  F_is_result := fun_of (d := d_is_result) rfl (c.fn_ 2 rfl).1 (c.fn_ 2 rfl).2
  g_is_result := He.glo_ok X G (c.fact 16 (f := (He.Fa.glo "is_result").ok) rfl)
  F__law_pool := fun_of (d := d__law_pool) rfl (c.fn_ 3 rfl).1 (c.fn_ 3 rfl).2
  g__law_pool := He.glo_ok X G (c.fact 17 (f := (He.Fa.glo "_law_pool").ok) rfl)
  F__law_draw := fun_of (d := d__law_draw) rfl (c.fn_ 4 rfl).1 (c.fn_ 4 rfl).2
  g__law_draw := He.glo_ok X G (c.fact 18 (f := (He.Fa.glo "_law_draw").ok) rfl)
  F__law_row_at := fun_of (d := d__law_row_at) rfl (c.fn_ 5 rfl).1 (c.fn_ 5 rfl).2
  g__law_row_at := He.glo_ok X G (c.fact 19 (f := (He.Fa.glo "_law_row_at").ok) rfl)
  F__law_emptied := fun_of (d := d__law_emptied) rfl (c.fn_ 6 rfl).1 (c.fn_ 6 rfl).2
  g__law_emptied := He.glo_ok X G (c.fact 20 (f := (He.Fa.glo "_law_emptied").ok) rfl)
  F_is_integer := fun_of (d := d_is_integer) rfl (c.fn_ 7 rfl).1 (c.fn_ 7 rfl).2
  g_is_integer := He.glo_ok X G (c.fact 21 (f := (He.Fa.glo "is_integer").ok) rfl)
  F__law_pick := fun_of (d := d__law_pick) rfl (c.fn_ 8 rfl).1 (c.fn_ 8 rfl).2
  g__law_pick := He.glo_ok X G (c.fact 22 (f := (He.Fa.glo "_law_pick").ok) rfl)
  F__law_step := fun_of (d := d__law_step) rfl (c.fn_ 9 rfl).1 (c.fn_ 9 rfl).2
  g__law_step := He.glo_ok X G (c.fact 23 (f := (He.Fa.glo "_law_step").ok) rfl)
  F_Duel___getitem__ := fun_of (d := d_Duel___getitem__) rfl (c.fn_ 10 rfl).1 (c.fn_ 10 rfl).2
  F_is_entry := fun_of (d := d_is_entry) rfl (c.fn_ 11 rfl).1 (c.fn_ 11 rfl).2
  g_is_entry := He.glo_ok X G (c.fact 24 (f := (He.Fa.glo "is_entry").ok) rfl)
  F__law_entry := fun_of (d := d__law_entry) rfl (c.fn_ 12 rfl).1 (c.fn_ 12 rfl).2
  g__law_entry := He.glo_ok X G (c.fact 25 (f := (He.Fa.glo "_law_entry").ok) rfl)
  F_Duel_check_first := fun_of (d := d_Duel_check_first) rfl (c.fn_ 13 rfl).1 (c.fn_ 13 rfl).2
  F_is_table_row := fun_of (d := d_is_table_row) rfl (c.fn_ 14 rfl).1 (c.fn_ 14 rfl).2
  g_is_table_row := He.glo_ok X G (c.fact 26 (f := (He.Fa.glo "is_table_row").ok) rfl)
  F__law_duel_rows := fun_of (d := d__law_duel_rows) rfl (c.fn_ 15 rfl).1 (c.fn_ 15 rfl).2
  g__law_duel_rows := He.glo_ok X G (c.fact 27 (f := (He.Fa.glo "_law_duel_rows").ok) rfl)
  F_Duel_step := fun_of (d := d_Duel_step) rfl (c.fn_ 16 rfl).1 (c.fn_ 16 rfl).2
  F_is_table := fun_of (d := d_is_table) rfl (c.fn_ 17 rfl).1 (c.fn_ 17 rfl).2
  g_is_table := He.glo_ok X G (c.fact 28 (f := (He.Fa.glo "is_table").ok) rfl)
  F_Duel_play := fun_of (d := d_Duel_play) rfl (c.fn_ 18 rfl).1 (c.fn_ 18 rfl).2
  F_Duel___init__ := fun_of (d := d_Duel___init__) rfl (c.fn_ 19 rfl).1 (c.fn_ 19 rfl).2
  F__law_heard := fun_of (d := d__law_heard) rfl (c.fn_ 20 rfl).1 (c.fn_ 20 rfl).2
  g__law_heard := He.glo_ok X G (c.fact 29 (f := (He.Fa.glo "_law_heard").ok) rfl)
  F__law_kept := fun_of (d := d__law_kept) rfl (c.fn_ 21 rfl).1 (c.fn_ 21 rfl).2
  g__law_kept := He.glo_ok X G (c.fact 30 (f := (He.Fa.glo "_law_kept").ok) rfl)
  F_law := fun_of (d := d_law) rfl (c.fn_ 22 rfl).1 (c.fn_ 22 rfl).2
  g_law := He.glo_ok X G (c.fact 31 (f := (He.Fa.glo "law").ok) rfl)
  nl := c.fact 32 (f := noList) rfl
  con_MOST_RATING := conB_ok X G (c.fact 33 (f := (conB "MOST_RATING" k_MOST_RATING)) rfl)
  con_MOST_ROWS := conB_ok X G (c.fact 34 (f := (conB "MOST_ROWS" k_MOST_ROWS)) rfl)
  con_RESULTS := conB_ok X G (c.fact 35 (f := (conB "RESULTS" k_RESULTS)) rfl)
  td_RESULTS := tupDB_ok X G (c.fact 36 (f := (tupDB "RESULTS")) rfl)
  g_LadderError := He.glo_ok X G (c.fact 37 (f := (He.Fa.glo "LadderError").ok) rfl)
  g_BadBook := He.glo_ok X G (c.fact 38 (f := (He.Fa.glo "BadBook").ok) rfl)
  g_BadGame := He.glo_ok X G (c.fact 39 (f := (He.Fa.glo "BadGame").ok) rfl)
  g_Duel := He.glo_ok X G (c.fact 40 (f := (He.Fa.glo "Duel").ok) rfl)
  er_BadBook := ErD.txt PySem.W.kxs_ValueError PySem.F.excBase_ValueError PySem.F.store_ValueError ini_BadBook (fun _ _ _ _ _ _ _ _ _ => rfl) (by decide +kernel) (c.er_ 0 rfl) (c.fact 41 (f := (fun K => erB P0.main.file "ValueError" "ValueError.__new__" "ValueError.__init__" He.veBase K e_BadBook)) rfl)
  xf_2 := excB_ok (c.fact 42 (f := (fun K => excB K (caK K 2))) rfl)
  no_2 := eqO_ok (c.fact 43 (f := (fun K => eqO (PySem.W.findIn K (.ref (caK K 2)) "part") (some none))) rfl)
  er_BadGame := ErD.txt PySem.W.kxs_ValueError PySem.F.excBase_ValueError PySem.F.store_ValueError ini_BadGame (fun _ _ _ _ _ _ _ _ _ => rfl) (by decide +kernel) (c.er_ 1 rfl) (c.fact 44 (f := (fun K => erB P0.main.file "ValueError" "ValueError.__new__" "ValueError.__init__" He.veBase K e_BadGame)) rfl)
  xf_4 := excB_ok (c.fact 45 (f := (fun K => excB K (caK K 4))) rfl)
  no_4 := eqO_ok (c.fact 46 (f := (fun K => eqO (PySem.W.findIn K (.ref (caK K 4)) "value") (some none))) rfl)
  exm_2_BadGame := of_decide_eq_true (c.fact 47 (f := (fun K => decide (PySem.W.exmOne K (.ref (caK K 2)) (.ref (caK K 4)) = some false))) rfl)
  exm_4_BadGame := of_decide_eq_true (c.fact 48 (f := (fun K => decide (PySem.W.exmOne K (.ref (caK K 4)) (.ref (caK K 4)) = some true))) rfl)
  ns_2 := of_decide_eq_true (c.fact 49 (f := (fun K => decide (PySem.W.subIn K (.ref (caK K 2)) (.type "StopIteration") = some false))) rfl)
  ns_4 := of_decide_eq_true (c.fact 50 (f := (fun K => decide (PySem.W.subIn K (.ref (caK K 4)) (.type "StopIteration") = some false))) rfl)
  own_Duel := ownB_ok (c.fact 51 (f := (fun K => ownB K (caK K 34))) rfl)
  na_Duel_far := eqO_ok (c.fact 52 (f := (fun K => eqO (PySem.W.findIn K (.ref (caK K 34)) "far") (some none))) rfl)
  na_Duel_span := eqO_ok (c.fact 53 (f := (fun K => eqO (PySem.W.findIn K (.ref (caK K 34)) "span") (some none))) rfl)
  na_Duel_table := eqO_ok (c.fact 54 (f := (fun K => eqO (PySem.W.findIn K (.ref (caK K 34)) "table") (some none))) rfl)
  me_Duel_check_first := He.meth_ok (c.fact 55 (f := (fun K => (He.Fa.meth "Duel" "check_first").ok K)) rfl)
  me_Duel_play := He.meth_ok (c.fact 56 (f := (fun K => (He.Fa.meth "Duel" "play").ok K)) rfl)
  me_Duel_step := He.meth_ok (c.fact 57 (f := (fun K => (He.Fa.meth "Duel" "step").ok K)) rfl)
  mk_Duel := He.mkr_ok (c.fact 58 (f := (fun K => (He.Fa.mkr "Duel").ok K)) rfl)
  du_Duel___getitem__ := dunB_ok (c.fact 59 (f := (fun K => dunB "__getitem__" K (caK K 34))) rfl)
end K41
open PySem PySem.W PySem.Calls PyProof.Rows in
theorem K41.holds_of (p : K41.Plain) : PySem.Challenge.rw_liftedladders_k41_whole_plays_of_duels.Holds := by
  w_on; o_law
  refine HandSHeadRun.head_any (r := OpenLaw.row PySem.Challenge.rw_liftedladders_k41_whole_plays_of_duels) (q := view (OpenLaw.row PySem.Challenge.rw_liftedladders_k41_whole_plays_of_duels).prog [30]) (H := K41.hk) (ob := K41.ob) (M := 8000) (loose := K41.loose) (d := HandSHeadRun.topDef (OpenLaw.row PySem.Challenge.rw_liftedladders_k41_whole_plays_of_duels).prog 30) (kwd := []) K41.ob_eq
    (by kernel_rfl) (fun s => by kernel_rfl) K41.run (by kernel_rfl) (by kernel_rfl) (by kernel_rfl) (by rfl) (by first | assumption | decide +kernel) (by decide +kernel) ⟨rfl, rfl, rfl, rfl, rfl, by decide +kernel⟩ ?hw ?hc
  case hw => w_witness2
  case hc =>
    refine Lad.walk_G (l := PySem.Challenge.rw_liftedladders_k41_whole_plays_of_duels) (n := 63) (k := 8) (x := "_law_script") rfl (by decide) (by kernel_rfl) ⟨rfl, by decide, by decide⟩ ?F
    intro w mg fa h Y G hmg0
    obtain ⟨K, KX, c⟩ := Y
    have hmg : mg ("law" : PySem.Str) = some (.ref fa) := by
      have e : (HandSHeadRun.topDef (OpenLaw.row PySem.Challenge.rw_liftedladders_k41_whole_plays_of_duels).prog 30).name = ("law" : PySem.Str) := by kernel_rfl
      rw [← e]
      exact hmg0
    have t := K41.txt KX G c
    have e := hmg.symm.trans t.g_law
    cases e
    refine ⟨K, Lad.fdOf K (He.ga K "law"), _, t.nl, KX, ?_, fun H a ns hl hO hS => Lad.sp_law (S := ⟨K, (K41.TT K).ca, (K41.TT K).nm, (K41.TT K).fld, _, _, (K41.TT K).ex⟩) t.nl p hl hO hS, fun base _ _ => K41.ok_law t⟩
    obtain ⟨oc, od, kV, doc, pm, an, cdv, ct, osl, e, lk, hcd⟩ := t.F_law.ex
    rw [e]
    exact fun s u => BindsTo.of_eq rfl
end
section
set_option maxRecDepth 10000
namespace Lad
open PySem L2
section
variable (f g f1 f2 f3 : En → Hea → Res Val) (s s1 s2 : En → Hea → SRes) (l l2 : En → Hea → Res (List Val)) (e : En) (h : Hea)
@[simp] theorem ap_seq : sSeq s1 s2 e h = match s1 e h with | .nx e1 h1 => s2 e1 h1 | r => r := rfl
@[simp] theorem ap_nil : sNil e h = .nx e h := rfl
@[simp] theorem ap_set (i) : sSet i f e h = ofR (f e h) e fun d h1 => .nx (e.set i (some d)) h1 := rfl
@[simp] theorem ap_ret : sRet f e h = ofR (f e h) e fun d h1 => .rt d h1 := rfl
@[simp] theorem ap_retN : sRetN e h = .rt .non h := rfl
@[simp] theorem ap_ex : sEx f e h = ofR (f e h) e fun _ h1 => .nx e h1 := rfl
@[simp] theorem ap_if : sIf f s1 s2 e h = ofR (f e h) e fun d h1 => match d with | .bl true => s1 e h1 | .bl false => s2 e h1 | _ => .stuck := rfl
@[simp] theorem ap_par (is) : sPar is l e h = ofR (l e h) e fun ds h1 => match setAll is ds e with | some e1 => .nx e1 h1 | none => .stuck := rfl
@[simp] theorem ap_asg (b) : sAsg b f e h = ofR (f e h) e fun d h1 => match b d e with | some e1 => .nx e1 h1 | none => .stuck := rfl
@[simp] theorem ap_gT (is xs) : gT is (.tup xs) e = setAll is xs e := rfl
@[simp] theorem ap_gN (i v) : gN i v e = some (e.set i (some v)) := rfl
@[simp] theorem ap_all0 : setAll [] [] e = some e := rfl
@[simp] theorem ap_all1 (i is v vs) : setAll (i :: is) (v :: vs) e = setAll is vs (e.set i (some v)) := rfl
@[simp] theorem ap_ofOk {α : Type} (a : α) (k : α → Hea → SRes) : ofR (.ok a h) e k = k a h := rfl
@[simp] theorem ap_ofExc {α : Type} (c d) (k : α → Hea → SRes) : ofR (.exc c d h) e k = .exc c d e h := rfl
@[simp] theorem ap_bindOk {α β : Type} (a : α) (k : α → Hea → Res β) : (Res.ok a h).bind k = k a h := rfl
@[simp] theorem ap_bindExc {α β : Type} (c d) (k : α → Hea → Res β) : (Res.exc c d h : Res α).bind k = .exc c d h := rfl
@[simp] theorem ap_var (i) : eVar i e h = match e[i]? with | some (some d) => .ok d h | _ => .stuck := rfl
@[simp] theorem ap_c (d) : eC d e h = .ok d h := rfl
@[simp] theorem ap_bin (o) : eBin o f1 f2 e h = (f1 e h).bind fun x h1 => (f2 e h1).bind fun y h2 => opt (o h2 x y) h2 := rfl
@[simp] theorem ap_un (o) : eUn o f e h = (f e h).bind fun x h1 => opt (o h1 x) h1 := rfl
@[simp] theorem ap_and : eAnd f1 f2 e h = (f1 e h).bind fun x h1 => match x with | .bl true => f2 e h1 | .bl false => .ok (.bl false) h1 | _ => .stuck := rfl
@[simp] theorem ap_or : eOr f1 f2 e h = (f1 e h).bind fun x h1 => match x with | .bl true => .ok (.bl true) h1 | .bl false => f2 e h1 | _ => .stuck := rfl
@[simp] theorem ap_eif : eIf f1 f2 f3 e h = (f1 e h).bind fun x h1 => match x with | .bl true => f2 e h1 | .bl false => f3 e h1 | _ => .stuck := rfl
@[simp] theorem ap_anil : aNil e h = .ok [] h := rfl
@[simp] theorem ap_acons : aCons f l e h = (f e h).bind fun x h1 => (l e h1).bind fun xs h2 => .ok (x :: xs) h2 := rfl
@[simp] theorem ap_cb (o) : eCB o l e h = (l e h).bind fun ds h1 => opt (o h1 ds) h1 := rfl
@[simp] theorem ap_call (cf) : eCall cf l e h = (l e h).bind cf := rfl
@[simp] theorem ap_it (o) : eIt o f e h = (f e h).bind fun d h1 => match itemsOf h1 d with | some xs => opt (o xs) h1 | none => .stuck := rfl
@[simp] theorem ap_itL (o) : eItL o l e h = (l e h).bind fun xs h1 => opt (o xs) h1 := rfl
@[simp] theorem ap_tup : eTup l e h = (l e h).bind fun xs h1 => if xs.length ≤ 16777216 then .ok (.tup xs) h1 else .stuck := rfl
@[simp] theorem ap_disp : lDisp l e h = (l e h).bind fun xs h1 => if xs.length ≤ 16777216 then .ok xs h1 else .stuck := rfl
@[simp] theorem ap_new : eNew l e h = (l e h).bind fun xs h1 => .ok (.ref h1.length) (h1 ++ [.lst xs]) := rfl
@[simp] theorem ap_chain (o o') : eChain o o' f1 f2 f3 e h = (f1 e h).bind fun x h1 => (f2 e h1).bind fun y h2 => match o h2 x y with | some (.bl true) => (f3 e h2).bind fun z h3 => opt (o' h3 y z) h3 | some (.bl false) => .ok (.bl false) h2 | _ => .stuck := rfl
@[simp] theorem ap_optS (d) : opt (some d) h = .ok d h := rfl
@[simp] theorem ap_raise (c) : sRaise c f e h = ofR (f e h) e fun d h1 => .exc c d e h1 := rfl
@[simp] theorem ap_yes : eYes e h = .ok (.bl true) h := rfl
@[simp] theorem ap_noX {α : Type} (a : α) : noX (.ok a h) = .ok a h := rfl
@[simp] theorem op_add (a b) : oAdd h (.int a) (.int b) = some (.int (a + b)) := rfl
@[simp] theorem op_sub (a b) : oSub h (.int a) (.int b) = some (.int (a - b)) := rfl
@[simp] theorem op_mul (a b) : oMul h (.int a) (.int b) = if mulOk a b = true then some (.int (a * b)) else none := rfl
@[simp] theorem op_div (a b) : oDiv h (.int a) (.int b) = if b ≠ 0 ∧ b.natAbs.log2 < 9000 then some (.int (a.fdiv b)) else none := rfl
@[simp] theorem op_mod (a b) : oMod h (.int a) (.int b) = if b ≠ 0 then some (.int (a.fmod b)) else none := rfl
@[simp] theorem op_neg (a) : oNeg h (.int a) = some (.int (-a)) := rfl
@[simp] theorem op_lt (a b) : oLt h (.int a) (.int b) = some (.bl (decide (a < b))) := rfl
@[simp] theorem op_le (a b) : oLe h (.int a) (.int b) = some (.bl (decide (a ≤ b))) := rfl
@[simp] theorem op_gt (a b) : oGt h (.int a) (.int b) = some (.bl (decide (b < a))) := rfl
@[simp] theorem op_ge (a b) : oGe h (.int a) (.int b) = some (.bl (decide (b ≤ a))) := rfl
@[simp] theorem op_not (b) : oNot h (.bl b) = some (.bl (!b)) := rfl
@[simp] theorem op_isb (a b) : oIs h (.bl a) (.bl b) = some (.bl (decide (a = b))) := rfl
@[simp] theorem op_isnb (a b) : oIsNot h (.bl a) (.bl b) = some (.bl (!decide (a = b))) := rfl
@[simp] theorem g_abs' (a) : gAbs h [.int a] = some (.int (a.natAbs : Int)) := by
  show some (Val.int (if a < 0 then -a else a)) = _
  congr 2
  split <;> omega
@[simp] theorem g_int' (a) : gInt h [.int a] = some (.int a) := rfl
@[simp] theorem g_intb (a) : gInt h [.bl a] = some (.int (if a then 1 else 0)) := rfl
@[simp] theorem g_len' (xs) : gLen xs = some (.int xs.length) := rfl
@[simp] theorem it_tup (xs) : itemsOf h (.tup xs) = some xs := rfl
@[simp] theorem it_ref (i) : itemsOf h (.ref i) = lstAt h i := rfl
@[simp] theorem eq_int (a b : Int) : eqB h (.int a) (.int b) = some (decide (a = b)) := by
  unfold eqB
  simp only [toD]
  rw [if_pos ⟨rfl, rfl⟩]
  simp [PyData.eqv]
  rfl
@[simp] theorem eq_bl (a b : Bool) : eqB h (.bl a) (.bl b) = some (decide (a = b)) := by
  unfold eqB
  simp only [toD]
  rw [if_pos ⟨rfl, rfl⟩]
  cases a <;> cases b <;> rfl
@[simp] theorem eq_tup2 (a b c d : Int) : eqB h (.tup [.int a, .int b]) (.tup [.int c, .int d]) = some (decide (a = c ∧ b = d)) := by
  unfold eqB
  simp only [toD, mapO]
  rw [if_pos ⟨rfl, rfl⟩]
  simp only [PyData.eqv, PyData.eqvAll, Bool.and_true]
  by_cases h1 : a = c <;> by_cases h2 : b = d <;> simp [h1, h2]
@[simp] theorem op_eq (a b) : oEq h a b = (eqB h a b).map .bl := rfl
@[simp] theorem op_ne (a b) : oNe h a b = (eqB h a b).map fun c => .bl (!c) := rfl
@[simp] theorem op_ix0 (a b : Val) : oIx h (.tup [a, b]) (.int 0) = some a := rfl
@[simp] theorem op_ix1 (a b : Val) : oIx h (.tup [a, b]) (.int 1) = some b := rfl
end
theorem mulOk_l {i j : Int} (h : i.natAbs < 2 ^ 64) : mulOk i j = true := by
  unfold mulOk
  rw [Bool.or_eq_true]
  left
  exact decide_eq_true (.inl (by omega))
theorem mulOk_r {i j : Int} (h : j.natAbs < 2 ^ 64) : mulOk i j = true := by
  unfold mulOk
  rw [Bool.or_eq_true]
  left
  exact decide_eq_true (.inr (by omega))
@[simp] theorem fin_same (h : Hea) (d : Val) : fin h d h = .ok d h := by unfold fin; rw [if_pos rfl]
@[simp] theorem finK_same (h : Hea) (d : Val) : finK h d h = .ok d h := by unfold finK; rw [if_pos rfl]
theorem fin_len {h h' : Hea} {d : Val} (hl : h'.length = h.length) : fin h d h' = .ok d h' := by unfold fin; rw [if_pos hl]
theorem run_rt {fn : Hea → Val → Hea → Res Val} {np ns : Nat} {b : En → Hea → SRes} {ds : List Val} {h h' : Hea} {d : Val} (hl : ds.length = np) (e : b (startE ns ds) h = .rt d h') : runG fn np ns b ds h = fn h d h' := by unfold runG; rw [if_pos hl, e]
theorem run_nx {fn : Hea → Val → Hea → Res Val} {np ns : Nat} {b : En → Hea → SRes} {ds : List Val} {h h' : Hea} {e' : En} (hl : ds.length = np) (e : b (startE ns ds) h = .nx e' h') : runG fn np ns b ds h = fn h .non h' := by unfold runG; rw [if_pos hl, e]
section
variable {f : En → Hea → Res Val} {l : En → Hea → Res (List Val)} {s s1 s2 : En → Hea → SRes} {e e1 : En} {h h1 : Hea} {d : Val} {ds : List Val} {r : SRes}
theorem seq_nx (a : s1 e h = .nx e1 h1) (b : s2 e1 h1 = r) : sSeq s1 s2 e h = r := by simp [a, b]
theorem seq_if_no (a : f e h = .ok (.bl false) h1) (b : s2 e h1 = r) : sSeq (sIf f s1 sNil) s2 e h = r := by simp [a, b]
theorem if_no (a : f e h = .ok (.bl false) h1) : sIf f s1 sNil e h = .nx e h1 := by simp [a]
theorem if_yes (a : f e h = .ok (.bl true) h1) (b : s1 e h1 = r) : sIf f s1 s2 e h = r := by simp [a, b]
theorem seq_set {i : Nat} (a : f e h = .ok d h1) (b : s2 (e.set i (some d)) h1 = r) : sSeq (sSet i f) s2 e h = r := by simp [a, b]
theorem ret_ok (a : f e h = .ok d h1) : sRet f e h = .rt d h1 := by simp [a]
end
section
variable {src : En → Hea → Res Src} {b : Val → En → Option En} {body : En → Hea → SRes} {e : En} {h h1 : Hea} {xs : List Val} {dead : List Nat}
theorem for_eq (a : src e h = .ok (srcFix xs) h1) : sFor src b body e h = forL b body xs e h1 := by
  unfold sFor
  rw [a]
  rfl
theorem forK_eq (a : src e h = .ok (srcFix xs) h1) : sForK dead src b body e h = forKL (gcN dead h1.length) b body xs e h1 := by
  unfold sForK
  rw [a]
  rfl
/-- each turn ends as it began -/
theorem forKL_const {gc : En → Hea → En × Hea} (w : ∀ v ∈ xs, ∃ e1 e2 h2, b v e = some e1 ∧ body e1 h = .nx e2 h2 ∧ gc e2 h2 = (e, h)) : forKL gc b body xs e h = .nx e h := by
  induction xs with
  | nil => rfl
  | cons v vs ih =>
    obtain ⟨e1, e2, h2, a1, a2, a3⟩ := w v List.mem_cons_self
    unfold forKL
    simp only [a1, a2, a3]
    exact ih fun u hu => w u (List.mem_cons_of_mem _ hu)
end
section
variable {own : List Nat} {src : En → Hea → Res Src} {b : Val → En → Option En} {tt f : En → Hea → Res Val} {e : En} {h h1 : Hea} {xs : List Val}
theorem comp_eq (a : src e h = .ok (srcFix xs) h1) (hz : xs.length ≤ 16777216) : lComp own src b tt f e h = compL b tt f (wipeE e own) xs h1 := by
  unfold lComp
  rw [a]
  show runComp (srcFix xs) b tt f (wipeE e own) h1 = _
  unfold runComp
  exact if_pos hz
/-- test and item tell values and leave the heap -/
theorem compL_pure {p : Val → Bool} {y : Val → Val} {e0 : En} : ∀ {xs : List Val} (w : ∀ v ∈ xs, ∃ e1, b v e0 = some e1 ∧ tt e1 h = .ok (.bl (p v)) h ∧ (p v = true → f e1 h = .ok (y v) h)), compL b tt f e0 xs h = .ok ((xs.filter p).map y) h
  | [], _ => rfl
  | v :: vs, w => by
    obtain ⟨e1, a1, a2, a3⟩ := w v List.mem_cons_self
    have ih := compL_pure (xs := vs) fun u hu => w u (List.mem_cons_of_mem _ hu)
    unfold compL
    simp only [a1, a2, ap_noX, ap_bindOk]
    cases hp : p v with
    | true => simp [a3 hp, ih, List.filter_cons, hp]
    | false => simp [ih, List.filter_cons, hp]
end
section
variable {f f1 f2 f3 : En → Hea → Res Val} {l : En → Hea → Res (List Val)} {e : En} {h h1 h2 : Hea} {r : Res Val} {d d2 d3 : Val} {ds : List Val}
theorem or_no (a : f1 e h = .ok (.bl false) h1) (b : f2 e h1 = r) : eOr f1 f2 e h = r := by simp only [ap_or, a, ap_bindOk]; exact b
theorem and_yes (a : f1 e h = .ok (.bl true) h1) (b : f2 e h1 = r) : eAnd f1 f2 e h = r := by simp only [ap_and, a, ap_bindOk]; exact b
theorem and_no (a : f1 e h = .ok (.bl false) h1) : eAnd f1 f2 e h = .ok (.bl false) h1 := by simp only [ap_and, a, ap_bindOk]
theorem not_ok {b : Bool} (a : f e h = .ok (.bl b) h1) : eUn oNot f e h = .ok (.bl (!b)) h1 := by simp only [ap_un, a, ap_bindOk]; rfl
theorem bin_ok {o : Hea → Val → Val → Option Val} (a : f1 e h = .ok d h1) (b : f2 e h1 = .ok d2 h2) (c : o h2 d d2 = some d3) : eBin o f1 f2 e h = .ok d3 h2 := by simp only [ap_bin, a, ap_bindOk, b, c, ap_optS]
theorem acons_ok {xs : List Val} (a : f e h = .ok d h1) (b : l e h1 = .ok xs h2) : aCons f l e h = .ok (d :: xs) h2 := by simp only [ap_acons, a, ap_bindOk, b]
theorem lst_ok (a : l e h = .ok ds h1) : eLst l e h = .ok (.lst ds) h1 := by show (l e h).bind _ = _; rw [a]; rfl
theorem call_eq {cf : List Val → Hea → Res Val} (a : l e h = .ok ds h1) (b : cf ds h1 = r) : eCall cf l e h = r := by simp only [ap_call, a, ap_bindOk]; exact b
theorem if_t (a : f1 e h = .ok (.bl true) h1) (b : f2 e h1 = r) : eIf f1 f2 f3 e h = r := by simp only [ap_eif, a, ap_bindOk]; exact b
theorem if_f (a : f1 e h = .ok (.bl false) h1) (b : f3 e h1 = r) : eIf f1 f2 f3 e h = r := by simp only [ap_eif, a, ap_bindOk]; exact b
end
theorem ne_same {h : Hea} (a : Val) (e : eqB h a a = some true) : oNe h a a = some (.bl false) := by simp only [op_ne, e, Option.map_some, Bool.not_true]
theorem ne_int (h : Hea) (n : Int) : oNe h (.int n) (.int n) = some (.bl false) := ne_same _ (by rw [eq_int]; simp)
theorem lenO_of {k : Nat} {cf : List Val → Hea → Res Val} {f : En → Hea → Res Val} {e : En} {h : Hea} {x : Val} {fs : List (Nat × Val)} {n : Int} (a : f e h = .ok x h) (i : insOf h x = some (k, fs)) (c : cf [x] h = .ok (.int n) h) (b0 : 0 ≤ n) (b6 : n < 9223372036854775808) : eLenO k cf f e h = .ok (.int n) h := by
  unfold eLenO
  simp only [a, ap_bindOk, i, c, ap_noX]
  simp only [if_true]
  rw [if_pos ⟨b0, b6⟩]
@[simp] theorem src_seqT (f : En → Hea → Res Val) (e : En) (h : Hea) : iSeq f e h = (f e h).bind fun d h1 => match d with
  | .ref i => if (lstAt h1 i).isSome = true then .ok (srcLive i) h1 else .stuck
  | .tup xs => .ok (srcFix xs) h1
  | .lst xs => .ok (srcFix xs) h1
  | _ => .stuck := rfl
@[simp] theorem src_tmp (f : En → Hea → Res (List Val)) (e : En) (h : Hea) : iTmp f e h = (f e h).bind fun xs h1 => .ok (srcFix xs) h1 := rfl
@[simp] theorem ap_lst (l : En → Hea → Res (List Val)) (e : En) (h : Hea) : eLst l e h = (l e h).bind fun xs h1 => .ok (.lst xs) h1 := rfl
@[simp] theorem ls_lst (h : Hea) (xs : List Val) : lstOf h (.lst xs) = some xs := rfl
@[simp] theorem it_lst (h : Hea) (xs : List Val) : itemsOf h (.lst xs) = some xs := rfl
end Lad
end
section
set_option maxRecDepth 10000
namespace Lad
end Lad
namespace Num
open PySem L2 Lad
def b_is_whole : En → Hea → SRes := (sRet (eAnd (eUn (oIsi [.int]) (eVar 0)) (eUn oNot (eUn (oIsi [.bool]) (eVar 0)))))
def c_is_whole : List Val → Hea → Res Val := runB 1 1 b_is_whole
def b_is_integer : En → Hea → SRes := (sRet (eAnd (eCall c_is_whole (aCons (eVar 0) aNil)) (eChain oLe oLe (eVar 1) (eVar 0) (eVar 2))))
def c_is_integer : List Val → Hea → Res Val := runB 3 3 b_is_integer
theorem whole_int (h : Hea) (a : Int) : c_is_whole [.int a] h = .ok (.bl true) h := by
  unfold c_is_whole runB runG b_is_whole
  simp [startE, oIsi, tyK, isTB]
theorem isi_ok (h : Hea) (a l u : Int) : c_is_integer [.int a, .int l, .int u] h = .ok (.bl (decide (l ≤ a ∧ a ≤ u))) h := by
  unfold c_is_integer runB runG b_is_integer
  by_cases hl : l ≤ a
  · simp [startE, whole_int, hl]
  · simp [startE, whole_int, hl]
end Num
end
section
set_option maxRecDepth 10000
namespace Lad
open PySem L2
@[simp] theorem ap_setIx (fv fo fi : En → Hea → Res Val) (e : En) (h : Hea) : sSetIx fv fo fi e h = ofR ((fv e h).bind fun v h1 => (fo e h1).bind fun o h2 => (fi e h2).bind fun i h3 => match setIx h3 o i v with
    | some h4 => .ok Val.non h4
    | none => .stuck) e fun _ h4 => .nx e h4 := rfl
/-- the script, a pool of a number and a state, and what else is held -/
abbrev Hp2 (ns : List Int) (a b : Int) (t : Hea) : Hea := .fro ns :: .lst [.int a, .int b] :: t
section
variable (ns : List Int) (a b : Int) (t : Hea)
@[simp] theorem hp2_ix0 : oIx (Hp2 ns a b t) (.ref 1) (.int 0) = some (.int a) := rfl
@[simp] theorem hp2_ix1 : oIx (Hp2 ns a b t) (.ref 1) (.int 1) = some (.int b) := rfl
@[simp] theorem hp2_set0 (v : Int) : setIx (Hp2 ns a b t) (.ref 1) (.int 0) (.int v) = some (Hp2 ns v b t) := rfl
@[simp] theorem hp2_set1 (v : Int) : setIx (Hp2 ns a b t) (.ref 1) (.int 1) (.int v) = some (Hp2 ns a v t) := rfl
end
end Lad
end
section
set_option maxRecDepth 10000
set_option maxHeartbeats 1000000
namespace Bk
open PySem L2 Lad
def k_MOST_PLACES : Val := (.int 24)
def k_MOST_RATING : Val := (.int 23)
def k_MOST_ROWS : Val := (.int 6)
def k_RESULTS : Val := (.tup [(.str "upper"), (.str "draw"), (.str "lower")])
def b_is_whole : En → Hea → SRes := (sRet (eAnd (eUn (oIsi [.int]) (eVar 0)) (eUn oNot (eUn (oIsi [.bool]) (eVar 0)))))
def c_is_whole : List Val → Hea → Res Val := runB 1 1 b_is_whole
def b_row_at : En → Hea → SRes := (sRet (eBin oIx (eLst (lComp [2] (iSeq (eVar 0)) (gN 2) (eBin oLe (eBin oIx (eVar 2) (eC (.int 0))) (eVar 1)) (eVar 2))) (eUn oNeg (eC (.int 1)))))
def c_row_at : List Val → Hea → Res Val := runB 2 3 b_row_at
def b_is_result : En → Hea → SRes := (sRet (eAnd (eUn (oIsi [.str]) (eVar 0)) (eBin oIn (eVar 0) (eC k_RESULTS))))
def c_is_result : List Val → Hea → Res Val := runB 1 1 b_is_result
def b_Book_last_phase : En → Hea → SRes := (sRet (eIf (eBin oGt (eFld (Nat.beq 30) 3 (eVar 0)) (eC (.int 0))) (eFld (Nat.beq 30) 3 (eVar 0)) (eCB gInt (aCons (eBin oGt (eFld (Nat.beq 30) 5 (eVar 0)) (eC (.int 0))) aNil))))
def c_Book_last_phase : List Val → Hea → Res Val := runB 1 1 b_Book_last_phase
def b_is_integer : En → Hea → SRes := (sRet (eAnd (eCall c_is_whole (aCons (eVar 0) aNil)) (eChain oLe oLe (eVar 1) (eVar 0) (eVar 2))))
def c_is_integer : List Val → Hea → Res Val := runB 3 3 b_is_integer
def b_Book_places : En → Hea → SRes := (sSeq (sSet 1 (eLst (lRg1 (eBin oAdd (eMeth 30 7 c_Book_last_phase (eVar 0) aNil) (eC (.int 1))))))
  (sRet (eLst (lComp2 [2, 3] [3] (iRng2V (aCons (eFld (Nat.beq 30) 0 (eVar 0)) (aCons (eBin oAdd (eFld (Nat.beq 30) 1 (eVar 0)) (eC (.int 1))) aNil))) (gN 2) eYes (iSeq (eVar 1)) (gN 3) eYes (eTup (aCons (eVar 2) (aCons (eVar 3) aNil)))))))
def c_Book_places : List Val → Hea → Res Val := runB 1 4 b_Book_places
def b_is_entry : En → Hea → SRes := (sSeq (sIf (eBin oIs (eVar 0) (eC .non)) (sRet (eC (.bl true))) sNil)
  (sRet (eAnd (eUn (oIsi [.tuple]) (eVar 0)) (eAnd (eBin oEq (eIt gLen (eVar 0)) (eC (.int 2))) (eItL gAll (lComp [1] (iSeq (eVar 0)) (gN 1) eYes (eCall c_is_integer (aCons (eVar 1) (aCons (eUn oNeg (eC (.int 9))) (aCons (eC (.int 9)) aNil))))))))))
def c_is_entry : List Val → Hea → Res Val := runB 1 2 b_is_entry
def b_Book___len__ : En → Hea → SRes := (sRet (eIt gLen (eMeth 30 6 c_Book_places (eVar 0) aNil)))
def c_Book___len__ : List Val → Hea → Res Val := runB 1 1 b_Book___len__
def b_is_table_row : En → Hea → SRes := (sSeq (sIf (eOr (eUn oNot (eUn (oIsi [.tuple]) (eVar 0))) (eOr (eBin oNe (eIt gLen (eVar 0)) (eC (.int 4))) (eUn oNot (eCall c_is_integer (aCons (eBin oIx (eVar 0) (eC (.int 0))) (aCons (eC (.int 0)) (aCons (eC k_MOST_RATING) aNil))))))) (sRet (eC (.bl false))) sNil)
  (sRet (eItL gAll (lComp [1] (iSeq (eCutA (eVar 0) (some (eC (.int 1))) none)) (gN 1) eYes (eCall c_is_entry (aCons (eVar 1) aNil))))))
def c_is_table_row : List Val → Hea → Res Val := runB 1 2 b_is_table_row
def b_is_table : En → Hea → SRes := (sSeq (sIf (eOr (eUn oNot (eUn (oIsi [.list, .tuple]) (eVar 0))) (eUn oNot (eChain oLe oLe (eC (.int 1)) (eIt gLen (eVar 0)) (eC k_MOST_ROWS)))) (sRet (eC (.bl false))) sNil)
  (sSeq (sIf (eOr (eUn oNot (eItL gAll (lComp [1] (iSeq (eVar 0)) (gN 1) eYes (eCall c_is_table_row (aCons (eVar 1) aNil))))) (eBin oNe (eBin oIx (eBin oIx (eVar 0) (eC (.int 0))) (eC (.int 0))) (eC (.int 0)))) (sRet (eC (.bl false))) sNil)
  (sRet (eItL gAll (lComp [2, 3] (iZipW (aCons (eVar 0) (aCons (eCutA (eVar 0) (some (eC (.int 1))) none) aNil))) (gT [2, 3]) eYes (eBin oLt (eBin oIx (eVar 2) (eC (.int 0))) (eBin oIx (eVar 3) (eC (.int 0)))))))))
def c_is_table : List Val → Hea → Res Val := runB 1 4 b_is_table
def b_Book___init__ : En → Hea → SRes := (sSeq (sIf (eUn oNot (eCall c_is_integer (aCons (eVar 1) (aCons (eC (.int 0)) (aCons (eC k_MOST_RATING) aNil))))) (sRaise 2 (eC (.str "low"))) sNil)
  (sSeq (sIf (eUn oNot (eCall c_is_integer (aCons (eVar 2) (aCons (eVar 1) (aCons (eC k_MOST_RATING) aNil))))) (sRaise 2 (eC (.str "high"))) sNil)
  (sSeq (sIf (eUn oNot (eCall c_is_table (aCons (eVar 3) aNil))) (sRaise 2 (eC (.str "table"))) sNil)
  (sSeq (sIf (eUn oNot (eCall c_is_integer (aCons (eVar 4) (aCons (eC (.int 0)) (aCons (eC (.int 2)) aNil))))) (sRaise 2 (eC (.str "fresh"))) sNil)
  (sSeq (sIf (eUn oNot (eCall c_is_integer (aCons (eVar 5) (aCons (eC (.int 1)) (aCons (eIf (eBin oGt (eVar 4) (eC (.int 0))) (eC (.int 3)) (eC (.int 1))) aNil))))) (sRaise 2 (eC (.str "times"))) sNil)
  (sSeq (sIf (eUn oNot (eCall c_is_integer (aCons (eVar 6) (aCons (eC (.int 0)) (aCons (eIf (eBin oEq (eVar 4) (eC (.int 0))) (eC (.int 5)) (eC (.int 0))) aNil))))) (sRaise 2 (eC (.str "bonus"))) sNil)
  (sSeq (sFldV (Nat.beq 30) 0 (eVar 0) (eVar 1))
  (sSeq (sFldV (Nat.beq 30) 1 (eVar 0) (eVar 2))
  (sSeq (sFldV (Nat.beq 30) 2 (eVar 0) (eIt gTuple (eVar 3)))
  (sSeq (sFldV (Nat.beq 30) 3 (eVar 0) (eVar 4))
  (sSeq (sFldV (Nat.beq 30) 4 (eVar 0) (eVar 5))
  (sSeq (sFldV (Nat.beq 30) 5 (eVar 0) (eVar 6))
  (sIf (eBin oGt (eLenO 30 c_Book___len__ (eVar 0)) (eC k_MOST_PLACES)) (sRaise 25 (eC k_MOST_PLACES)) sNil)))))))))))))
def c_Book___init__ : List Val → Hea → Res Val := runB 7 7 b_Book___init__
abbrev Ent := Option (Int × Int)
abbrev Row := Int × Ent × Ent × Ent
def entV : Ent → Val
  | none => .non
  | some (a, b) => .tup [.int a, .int b]
def rowV (r : Row) : Val := .tup [.int r.1, entV r.2.1, entV r.2.2.1, entV r.2.2.2]
@[simp] theorem fld_bk (h : Hea) (n : Nat) (f : En → Hea → Res Val) (e : En) : eFld (Nat.beq 30) n f e h = (f e h).bind fun o h1 => match insOf h1 o with
  | some (c, fs) => if Nat.beq 30 c = true then (match lkF fs n with
    | some d => .ok d h1
    | none => .stuck) else .stuck
  | none => .stuck := rfl
@[simp] theorem ap_aug (i : Nat) (o : Int → Int → Int) (f : En → Hea → Res Val) (e : En) (h : Hea) : sAug i o f e h = match e[i]? with
  | some (some (.int x)) => ofR (f e h) e fun d h1 => match d with
    | .int y => .nx (e.set i (some (.int (o x y)))) h1
    | _ => .stuck
  | _ => .stuck := rfl
end Bk
end
section
set_option maxRecDepth 10000
set_option maxHeartbeats 1000000
namespace Bk
open PySem L2 Lad
def lastp (fresh bonus : Int) : Int := if 0 < fresh then fresh else if 0 < bonus then 1 else 0
theorem isi_ok (h : Hea) (a l u : Int) : c_is_integer [.int a, .int l, .int u] h = .ok (.bl (decide (l ≤ a ∧ a ≤ u))) h := Num.isi_ok h a l u
@[simp] theorem ap_meth (c n : Nat) (cf : List Val → Hea → Res Val) (f : En → Hea → Res Val) (g : En → Hea → Res (List Val)) (e : En) (h : Hea) : eMeth c n cf f g e h = (f e h).bind fun o h1 => match insOf h1 o with
  | some (c', fs) => if c' = c ∧ noF fs n = true then (g e h1).bind fun ds h2 => cf (o :: ds) h2 else .stuck
  | none => .stuck := rfl
def rowB (d : Int) : Val → Bool
  | .tup (.int b :: _) => decide (b ≤ d)
  | _ => false
def upTo (rows : List Row) (d : Int) : List Row := rows.filter fun r => decide (r.1 ≤ d)
theorem filter_rows (rows : List Row) (d : Int) : (rows.map rowV).filter (rowB d) = (upTo rows d).map rowV := by
  unfold upTo
  induction rows with
  | nil => rfl
  | cons r rs ih =>
    rw [List.map_cons, List.filter_cons, List.filter_cons, ih]
    show (if decide (r.1 ≤ d) = true then _ else _) = _
    split <;> rfl
theorem ix_last (h : Hea) (xs : List Val) {x : Val} (e : xs.getLast? = some x) : oIx h (.lst xs) (.int (-1)) = some x := by
  show L2.atI xs (-1) = some x
  unfold L2.atI L2.ixN
  have hn : 0 < xs.length := by cases xs with | nil => cases e | cons => simp
  rw [if_neg (by decide), if_pos (by omega)]
  rw [List.getLast?_eq_getElem?] at e
  have hz : (-1 + (xs.length : Int)).toNat = xs.length - 1 := by omega
  show (some (-1 + (xs.length : Int)).toNat).bind (fun j => xs[j]?) = some x
  rw [hz]
  exact e
theorem row_ok (h : Hea) (rows : List Row) (d : Int) {r : Row} (hl : rows.length ≤ 100) (e : (upTo rows d).getLast? = some r) : c_row_at [.tup (rows.map rowV), .int d] h = .ok (rowV r) h := by
  refine (run_rt (fn := fin) (d := rowV r) (h' := h) rfl ?_).trans (fin_same _ _)
  unfold b_row_at
  refine ret_ok (bin_ok (d := .lst ((upTo rows d).map rowV)) (h1 := h) (lst_ok ?_) (d2 := .int (-1)) (h2 := h) rfl (ix_last _ _ (by rw [List.getLast?_map, e]; rfl)))
  rw [comp_eq (xs := rows.map rowV) (h1 := h) rfl (by rw [List.length_map]; omega), ← filter_rows, compL_pure (p := rowB d) (y := fun v => v)]
  · rw [List.map_id']
  · intro v hv
    obtain ⟨q, _, rfl⟩ := List.mem_map.mp hv
    exact ⟨_, rfl, rfl, fun _ => rfl⟩
end Bk
end
section
set_option maxRecDepth 10000
set_option maxHeartbeats 1000000
namespace Bk
open PySem L2 Lad
def ress : List Str := ["upper", "draw", "lower"]
def entOf (r : Row) (s : Str) : Ent := if s = "upper" then r.2.1 else if s = "draw" then r.2.2.1 else r.2.2.2
theorem meth_of {c n : Nat} {cf : List Val → Hea → Res Val} {f : En → Hea → Res Val} {g : En → Hea → Res (List Val)} {e : En} {h h1 h2 : Hea} {B : Val} {fs : List (Nat × Val)} {ds : List Val} {r : Res Val} (a : f e h = .ok B h1) (i : insOf h1 B = some (c, fs)) (n0 : noF fs n = true) (g0 : g e h1 = .ok ds h2) (q : cf (B :: ds) h2 = r) : eMeth c n cf f g e h = r := by
  unfold eMeth; rw [a, ap_bindOk, i]
  show (if c = c ∧ noF fs n = true then _ else Res.stuck) = r
  rw [if_pos ⟨rfl, n0⟩, g0]; exact q
def EntOk : Ent → Prop
  | none => True
  | some (a, b) => -9 ≤ a ∧ a ≤ 9 ∧ -9 ≤ b ∧ b ≤ 9
end Bk
end
section
set_option maxRecDepth 10000
set_option maxHeartbeats 1000000
namespace Lad
open PySem L2
section
variable {own own1 : List Nat} {src src1 : En → Hea → Res Src} {b b1 : Val → En → Option En} {tt tt1 f : En → Hea → Res Val} {e0 : En} {h : Hea}
theorem compG_pure {p : Val → Bool} {y : Val → Val} {xs : List Val} (w : ∀ v ∈ xs, ∃ e1, b v e0 = some e1 ∧ tt e1 h = .ok (.bl (p v)) h ∧ (p v = true → f e1 h = .ok (y v) h)) :
    ∀ (m k : Nat) (acc : List Val), k + m = xs.length + 1 → 0 < m → acc.length + (xs.length - k) ≤ 16777216 → compG (srcFix xs).item b tt f e0 m k acc h = .ok (acc ++ ((xs.drop k).filter p).map y) h := by
  intro m
  induction m with
  | zero => intro k acc hm h0; omega
  | succ m ih =>
    intro k acc hm _ ha
    unfold compG
    rw [fix_item xs (by omega)]
    by_cases hk : k < xs.length
    · rw [List.getElem?_eq_getElem hk, List.drop_eq_getElem_cons hk]
      obtain ⟨e1, a1, a2, a3⟩ := w xs[k] (List.getElem_mem hk)
      dsimp only
      rw [a1]
      dsimp only
      rw [a2]
      cases hp : p xs[k] with
      | true =>
        simp only [ap_noX, ap_bindOk, a3 hp]
        rw [if_pos (by omega), ih (k + 1) (acc ++ [y xs[k]]) (by omega) (by omega) (by simp; omega)]
        rw [List.filter_cons, if_pos hp, List.map_cons, List.append_assoc]; rfl
      | false =>
        simp only [ap_noX, ap_bindOk]
        rw [ih (k + 1) acc (by omega) (by omega) (by omega)]
        rw [List.filter_cons, if_neg (by rw [hp]; decide)]
    · rw [List.getElem?_eq_none_iff.mpr (by omega), List.drop_eq_nil_of_le (by omega)]
      simp
theorem comp2G_pure {ys : Val → List Val} {p : Val → Val → Bool} {z : Val → Val → Val} {xs : List Val} {B : Nat} (hB : ∀ v ∈ xs, (ys v).length ≤ B)
    (w : ∀ v ∈ xs, ∃ e1, b v e0 = some e1 ∧ tt e1 h = .ok (.bl true) h ∧ src1 e1 h = .ok (srcFix (ys v)) h ∧ ∀ u ∈ ys v, ∃ e2, b1 u (wipeE e1 own1) = some e2 ∧ tt1 e2 h = .ok (.bl (p v u)) h ∧ (p v u = true → f e2 h = .ok (z v u) h)) (hz : xs.length * B ≤ 16777216) :
    ∀ (m k : Nat) (acc : List Val), k + m = xs.length + 1 → 0 < m → acc.length ≤ k * B → comp2G (srcFix xs).item b tt src1 own1 b1 tt1 f e0 m k acc h = .ok (acc ++ (xs.drop k).flatMap fun v => ((ys v).filter (p v)).map (z v)) h := by
  intro m
  induction m with
  | zero => intro k acc hm h0; omega
  | succ m ih =>
    intro k acc hm _ ha
    unfold comp2G
    rw [fix_item xs (by omega)]
    by_cases hk : k < xs.length
    · rw [List.getElem?_eq_getElem hk, List.drop_eq_getElem_cons hk]
      obtain ⟨e1, a1, a2, a3, a4⟩ := w xs[k] (List.getElem_mem hk)
      have hb := hB xs[k] (List.getElem_mem hk)
      have hkB : (k + 1) * B ≤ xs.length * B := Nat.mul_le_mul_right B (by omega)
      have hk1 : (k + 1) * B = k * B + B := Nat.succ_mul k B
      dsimp only
      rw [a1]
      dsimp only
      rw [a2]
      simp only [ap_noX, ap_bindOk]
      rw [a3]
      simp only [ap_noX, ap_bindOk]
      have g := compG_pure (b := b1) (tt := tt1) (f := f) (e0 := wipeE e1 own1) (h := h) (p := p xs[k]) (y := z xs[k]) (xs := ys xs[k]) a4 ((ys xs[k]).length + 1) 0 acc (by omega) (by omega) (by omega)
      show ((compG (srcFix (ys xs[k])).item b1 tt1 f (wipeE e1 own1) ((ys xs[k]).length + 1) 0 acc h).bind _) = _
      rw [g]
      simp only [ap_bindOk, List.drop_zero]
      have hf : ((ys xs[k]).filter (p xs[k])).length ≤ B := Nat.le_trans (List.length_filter_le _ _) hb
      rw [ih (k + 1) _ (by omega) (by omega) (by rw [List.length_append, List.length_map]; omega)]
      rw [List.flatMap_cons, List.append_assoc]
    · rw [List.getElem?_eq_none_iff.mpr (by omega), List.drop_eq_nil_of_le (by omega)]
      simp
theorem comp2_eq {ys : Val → List Val} {p : Val → Val → Bool} {z : Val → Val → Val} {xs : List Val} {B : Nat} {e : En} (a : src e h = .ok (srcFix xs) h) (hB : ∀ v ∈ xs, (ys v).length ≤ B)
    (w : ∀ v ∈ xs, ∃ e1, b v (wipeE e own) = some e1 ∧ tt e1 h = .ok (.bl true) h ∧ src1 e1 h = .ok (srcFix (ys v)) h ∧ ∀ u ∈ ys v, ∃ e2, b1 u (wipeE e1 own1) = some e2 ∧ tt1 e2 h = .ok (.bl (p v u)) h ∧ (p v u = true → f e2 h = .ok (z v u) h)) (hz : xs.length * B ≤ 16777216) :
    lComp2 own own1 src b tt src1 b1 tt1 f e h = .ok (xs.flatMap fun v => ((ys v).filter (p v)).map (z v)) h := by
  unfold lComp2
  rw [a]
  show comp2G (srcFix xs).item b tt src1 own1 b1 tt1 f (wipeE e own) (xs.length + 1) 0 [] h = _
  rw [comp2G_pure hB w hz (xs.length + 1) 0 [] (by omega) (by omega) (by simp)]
  simp
end
end Lad
end
section
set_option maxRecDepth 10000
set_option maxHeartbeats 1000000
namespace Bk
open PySem L2 Lad
theorem gAll_t (xs : List Val) (w : ∀ v ∈ xs, v = .bl true) : gAll xs = some (.bl true) := by
  have : ∃ bs : List Bool, bls? xs = some bs ∧ bs.all id = true := by
    induction xs with
    | nil => exact ⟨[], rfl, rfl⟩
    | cons v vs ih =>
      obtain ⟨bs, e, q⟩ := ih fun u hu => w u (List.mem_cons_of_mem _ hu)
      rw [w v List.mem_cons_self]
      refine ⟨true :: bs, by simp [bls?, e], by simpa using q⟩
  obtain ⟨bs, e, q⟩ := this
  unfold gAll
  rw [e]
  simp [q]
theorem allC {own : List Nat} {src : En → Hea → Res Src} {b : Val → En → Option En} {f : En → Hea → Res Val} {e : En} {h : Hea} {xs : List Val} (a : src e h = .ok (srcFix xs) h) (hz : xs.length ≤ 16777216)
    (w : ∀ v ∈ xs, ∃ e1, b v (wipeE e own) = some e1 ∧ f e1 h = .ok (.bl true) h) : eItL gAll (lComp own src b eYes f) e h = .ok (.bl true) h := by
  rw [ap_itL, comp_eq a hz, compL_pure (p := fun _ => true) (y := fun _ => .bl true) (fun v hv => by
    obtain ⟨e1, a1, a2⟩ := w v hv
    exact ⟨e1, a1, rfl, fun _ => a2⟩), ap_bindOk, gAll_t]
  · rfl
  · intro v hv
    obtain ⟨_, _, rfl⟩ := List.mem_map.mp hv
    rfl
theorem entry_ok (h : Hea) {en : Ent} (ok : EntOk en) : c_is_entry [entV en] h = .ok (.bl true) h := by
  refine (run_rt (fn := fin) (d := .bl true) (h' := h) rfl ?_).trans (fin_same _ _)
  unfold b_is_entry
  cases en with
  | none => rfl
  | some q =>
    obtain ⟨a, b⟩ := q
    obtain ⟨o1, o2, o3, o4⟩ := ok
    refine seq_if_no (h1 := h) rfl ?_
    refine ret_ok (and_yes (h1 := h) rfl (and_yes (h1 := h) rfl ?_))
    refine allC (xs := [.int a, .int b]) rfl (Nat.le_of_ble_eq_true rfl) fun v hv => ?_
    simp only [List.mem_cons, List.not_mem_nil, or_false] at hv
    rcases hv with rfl | rfl
    · refine ⟨_, rfl, call_eq rfl ((isi_ok h a (-9) 9).trans ?_)⟩
      rw [decide_eq_true ⟨o1, o2⟩]
    · refine ⟨_, rfl, call_eq rfl ((isi_ok h b (-9) 9).trans ?_)⟩
      rw [decide_eq_true ⟨o3, o4⟩]
def RowOk (r : Row) : Prop := 0 ≤ r.1 ∧ r.1 ≤ 23 ∧ EntOk r.2.1 ∧ EntOk r.2.2.1 ∧ EntOk r.2.2.2
theorem trow_ok (h : Hea) {r : Row} (ok : RowOk r) : c_is_table_row [rowV r] h = .ok (.bl true) h := by
  refine (run_rt (fn := fin) (d := .bl true) (h' := h) rfl ?_).trans (fin_same _ _)
  unfold b_is_table_row
  obtain ⟨o1, o2, o3, o4, o5⟩ := ok
  refine seq_if_no (h1 := h) (or_no (h1 := h) rfl (or_no (h1 := h) rfl (not_ok (b := true) (call_eq (ds := [.int r.1, .int 0, .int 23]) (h1 := h) rfl ((isi_ok h r.1 0 23).trans ?_))))) ?_
  · rw [decide_eq_true ⟨o1, o2⟩]
  refine ret_ok (allC (xs := [entV r.2.1, entV r.2.2.1, entV r.2.2.2]) rfl (Nat.le_of_ble_eq_true rfl) fun v hv => ?_)
  simp only [List.mem_cons, List.not_mem_nil, or_false] at hv
  rcases hv with rfl | rfl | rfl
  · exact ⟨_, rfl, call_eq rfl (entry_ok h o3)⟩
  · exact ⟨_, rfl, call_eq rfl (entry_ok h o4)⟩
  · exact ⟨_, rfl, call_eq rfl (entry_ok h o5)⟩
def asc : List Row → Prop
  | a :: b :: t => a.1 < b.1 ∧ asc (b :: t)
  | _ => True
theorem zip_rows : ∀ {rows : List Row}, asc rows → ∀ v ∈ zipV (rows.map rowV) ((rows.map rowV).drop 1), ∃ a b : Row, v = .tup [rowV a, rowV b] ∧ a.1 < b.1
  | [], _, v, hv => by cases hv
  | [a], _, v, hv => by cases hv
  | a :: b :: t, q, v, hv => by
    rcases List.mem_cons.mp (show v ∈ Val.tup [rowV a, rowV b] :: zipV ((b :: t).map rowV) (((b :: t).map rowV).drop 1) from hv) with rfl | hv
    · exact ⟨a, b, rfl, q.1⟩
    · exact zip_rows q.2 v hv
theorem cut1 (xs : List Val) (h0 : 0 < xs.length) : cutL xs (some 1) none = xs.drop 1 := by
  unfold cutL
  rw [show HT.sIx xs.length 0 (some (1 : Int)) = 1 from by
    have := HT.sIx_nat xs.length 0 1
    rw [show (some (1 : Int)) = some ((1 : Nat) : Int) from rfl, this]
    omega, HT.sIx_none]
  rw [List.take_of_length_le (by rw [List.length_drop]; omega)]
theorem chain_ok {o o' : Hea → Val → Val → Option Val} {f1 f2 f3 : En → Hea → Res Val} {e : En} {h : Hea} {x y z w : Val} (a : f1 e h = .ok x h) (b : f2 e h = .ok y h) (c : o h x y = some (.bl true)) (d : f3 e h = .ok z h) (g : o' h y z = some w) : eChain o o' f1 f2 f3 e h = .ok w h := by
  simp only [ap_chain, a, ap_bindOk, b, c, d, g, ap_optS]
theorem ix_0 (h : Hea) (xs : List Val) (tv x : Val) (ht : tv = .lst xs ∨ tv = .tup xs) (e : xs[0]? = some x) : oIx h tv (.int 0) = some x := by
  have hn : 0 < xs.length := by cases xs with | nil => cases e | cons => simp
  have : L2.atI xs 0 = some x := by
    unfold L2.atI L2.ixN
    rw [if_pos (by decide), if_pos (by omega)]
    exact e
  rcases ht with rfl | rfl <;> exact this
structure TabOk (rows : List Row) : Prop where
  n0 : 0 < rows.length
  n6 : rows.length ≤ 6
  ok : ∀ r ∈ rows, RowOk r
  z : ∃ r, rows[0]? = some r ∧ r.1 = 0
  as : asc rows
theorem table_ok (h : Hea) {rows : List Row} (t : TabOk rows) (tv : Val) (ht : tv = .lst (rows.map rowV) ∨ tv = .tup (rows.map rowV)) : c_is_table [tv] h = .ok (.bl true) h := by
  refine (run_rt (fn := fin) (d := .bl true) (h' := h) rfl ?_).trans (fin_same _ _)
  have hlen : (rows.map rowV).length = rows.length := List.length_map _
  have gl : eIt gLen (eVar 0) (startE 4 [tv]) h = .ok (.int rows.length) h := by
    rcases ht with rfl | rfl
    · show Res.ok (Val.int ((rows.map rowV).length : Nat)) h = _; rw [hlen]
    · show Res.ok (Val.int ((rows.map rowV).length : Nat)) h = _; rw [hlen]
  have is : ∀ e : En, e[0]? = some (some tv) → iSeq (eVar 0) e h = .ok (srcFix (rows.map rowV)) h := by
    intro e he
    rw [src_seqT, ap_var, he]
    rcases ht with rfl | rfl <;> rfl
  unfold b_is_table
  have n0 := t.n0
  have n6 := t.n6
  refine seq_if_no (h1 := h) (or_no (h1 := h) ?_ (not_ok (b := true) ?_)) ?_
  · rcases ht with rfl | rfl <;> rfl
  · refine (chain_ok (x := .int 1) (y := .int rows.length) (z := .int 6) rfl gl ?_ rfl ?_)
    · rw [Lad.op_le, decide_eq_true (by omega)]
    · rw [Lad.op_le, decide_eq_true (by omega)]
  obtain ⟨r0, e0, z0⟩ := t.z
  have x0 : oIx h tv (.int 0) = some (rowV r0) := ix_0 h _ _ _ ht (by rw [List.getElem?_map, e0]; rfl)
  refine seq_if_no (h1 := h) (or_no (h1 := h) (not_ok (b := true) (allC (is _ rfl) (by rw [hlen]; omega) fun v hv => ?_)) (bin_ok (d := .int r0.1) (h1 := h) (bin_ok (d := rowV r0) (h1 := h) (bin_ok rfl rfl x0) rfl rfl) (d2 := .int 0) (h2 := h) rfl ?_)) ?_
  · obtain ⟨r, hr, rfl⟩ := List.mem_map.mp hv
    exact ⟨_, rfl, call_eq rfl (trow_ok h (t.ok r hr))⟩
  · rw [z0]; exact ne_int h 0
  have zs : iZipW (aCons (eVar 0) (aCons (eCutA (eVar 0) (some (eC (.int 1))) none) aNil)) (startE 4 [tv]) h = .ok (srcFix (zipV (rows.map rowV) ((rows.map rowV).drop 1))) h := by
    rw [← cut1 (rows.map rowV) (by rw [hlen]; omega)]
    rcases ht with rfl | rfl <;> rfl
  refine ret_ok (allC zs ?_ fun v hv => ?_)
  · unfold zipV
    rw [List.length_zipWith, hlen]
    omega
  · obtain ⟨a, b, rfl, hlt⟩ := zip_rows t.as v hv
    refine ⟨_, rfl, bin_ok (d := .int a.1) (h1 := h) rfl (d2 := .int b.1) (h2 := h) rfl ?_⟩
    rw [Lad.op_lt, decide_eq_true hlt]
def placesV (low high l : Int) : List Val := (rangeV low (high + 1 - low).toNat).flatMap fun r => (rgL 0 (l + 1)).map fun p => .tup [r, p]
theorem lastp_le {fresh bonus : Int} (h : fresh ≤ 2) : 0 ≤ lastp fresh bonus ∧ lastp fresh bonus ≤ 2 := by
  unfold lastp
  split
  · omega
  · split <;> omega
/-- a book as it is being made, or made -/
def IsBk (h : Hea) (B : Val) (low high : Int) (tab : Val) (fresh times bonus : Int) : Prop := insOf h B = some (30, [(0, .int low), (1, .int high), (2, tab), (3, .int fresh), (4, .int times), (5, .int bonus)])
section
variable {h : Hea} {B tab : Val} {low high fresh times bonus : Int} {e : En} {f : En → Hea → Res Val}
theorem fld_of {n : Nat} {d : Val} {fs : List (Nat × Val)} (a : f e h = .ok B h) (i : insOf h B = some (30, fs)) (l : lkF fs n = some d) : eFld (Nat.beq 30) n f e h = .ok d h := by
  unfold eFld; rw [a, ap_bindOk, i]
  show (if Nat.beq 30 30 = true then _ else Res.stuck) = _
  rw [l]; rfl
theorem last_of (i : IsBk h B low high tab fresh times bonus) : c_Book_last_phase [B] h = .ok (.int (lastp fresh bonus)) h := by
  refine (run_rt (fn := fin) (d := .int (lastp fresh bonus)) (h' := h) rfl ?_).trans (fin_same _ _)
  unfold b_Book_last_phase
  have f3 : eFld (Nat.beq 30) 3 (eVar 0) (startE 1 [B]) h = .ok (.int fresh) h := fld_of rfl i rfl
  have f5 : eFld (Nat.beq 30) 5 (eVar 0) (startE 1 [B]) h = .ok (.int bonus) h := fld_of rfl i rfl
  refine ret_ok ?_
  unfold lastp
  by_cases h1 : 0 < fresh
  · rw [if_pos h1]
    exact if_t (bin_ok f3 rfl (by rw [Lad.op_gt, decide_eq_true h1])) f3
  · rw [if_neg h1]
    refine if_f (h1 := h) (bin_ok f3 rfl (by rw [Lad.op_gt, decide_eq_false h1])) ?_
    rw [ap_cb, acons_ok (d := .bl (decide (0 < bonus))) (h1 := h) (bin_ok f5 rfl (Lad.op_gt _ _ _)) rfl, ap_bindOk, g_intb]
    by_cases h2 : 0 < bonus
    · rw [if_pos h2, decide_eq_true h2]; rfl
    · rw [if_neg h2, decide_eq_false h2]; rfl
theorem places_of (i : IsBk h B low high tab fresh times bonus) (hf : fresh ≤ 2) (l0 : 0 ≤ low) (hle : low ≤ high) (h1 : high ≤ 23) : c_Book_places [B] h = .ok (.lst (placesV low high (lastp fresh bonus))) h := by
  refine (run_rt (fn := fin) (d := .lst (placesV low high (lastp fresh bonus))) (h' := h) rfl ?_).trans (fin_same _ _)
  have hl := lastp_le (bonus := bonus) hf
  have m : eMeth 30 7 c_Book_last_phase (eVar 0) aNil (startE 4 [B]) h = .ok (.int (lastp fresh bonus)) h := meth_of rfl i rfl rfl (last_of i)
  generalize lastp fresh bonus = l at *
  unfold b_Book_places
  refine seq_set (d := .lst (rgL 0 (l + 1))) (h1 := h) (lst_ok ?_) ?_
  · show (eBin _ _ _ _ _).bind _ = _
    rw [bin_ok (d3 := .int (l + 1)) m rfl rfl, ap_bindOk]
    show (if rgOkB 0 (l + 1) = true then _ else Res.stuck) = _
    rw [if_pos (show rgOkB 0 (l + 1) = true from decide_eq_true ⟨by omega, by omega, by omega, by omega⟩)]
  have f0 : eFld (Nat.beq 30) 0 (eVar 0) ((startE 4 [B]).set 1 (some (.lst (rgL 0 (l + 1))))) h = .ok (.int low) h := fld_of rfl i rfl
  have f1 : eFld (Nat.beq 30) 1 (eVar 0) ((startE 4 [B]).set 1 (some (.lst (rgL 0 (l + 1))))) h = .ok (.int high) h := fld_of rfl i rfl
  have sr : iRng2V (aCons (eFld (Nat.beq 30) 0 (eVar 0)) (aCons (eBin oAdd (eFld (Nat.beq 30) 1 (eVar 0)) (eC (.int 1))) aNil)) ((startE 4 [B]).set 1 (some (.lst (rgL 0 (l + 1))))) h = .ok (srcFix (rangeV low (high + 1 - low).toNat)) h := by
    unfold iRng2V
    rw [acons_ok f0 (acons_ok (bin_ok f1 rfl (Lad.op_add _ _ _)) rfl), ap_bindOk]
    show (if (rngOk low && rngOk (high + 1)) = true then _ else Res.stuck) = _
    by_cases hh : low ≤ high
    · rw [if_pos]
      unfold rngOk
      rw [decide_eq_true ⟨by omega, by omega⟩, decide_eq_true ⟨by omega, by omega⟩]
      rfl
    · exact absurd hle hh
  have lr : (rgL 0 (l + 1)).length ≤ 3 := by
    unfold rgL
    rw [List.length_map, List.length_range]
    omega
  refine ret_ok (lst_ok ?_)
  refine (comp2_eq (own := [2, 3]) (own1 := [3]) (b := gN 2) (b1 := gN 3) (tt := eYes) (tt1 := eYes) (src1 := iSeq (eVar 1)) (f := eTup (aCons (eVar 2) (aCons (eVar 3) aNil))) (xs := rangeV low (high + 1 - low).toNat) (ys := fun _ => rgL 0 (l + 1)) (p := fun _ _ => true) (z := fun v u => .tup [v, u]) (B := 3) sr (fun v hv => lr) (fun v hv => ⟨_, rfl, rfl, rfl, fun u hu => ⟨_, rfl, rfl, fun _ => rfl⟩⟩) ?_).trans ?_
  rotate_left
  · unfold placesV
    rw [show ((rgL 0 (l + 1)).filter fun _ => true) = rgL 0 (l + 1) from List.filter_eq_self.mpr fun _ _ => rfl]
  · unfold rangeV
    rw [List.length_map, List.length_range]
    omega
theorem placesV_len (low high l : Int) : (placesV low high l).length = (high + 1 - low).toNat * (l + 1).toNat := by
  unfold placesV
  rw [List.length_flatMap]
  have : ∀ xs : List Val, (xs.map fun r => ((rgL 0 (l + 1)).map fun p => Val.tup [r, p]).length).sum = xs.length * (l + 1).toNat := by
    intro xs
    induction xs with
    | nil => simp
    | cons x xs ih =>
      rw [List.map_cons, List.sum_cons, ih, List.length_map, List.length_cons, Nat.succ_mul]
      unfold rgL
      rw [List.length_map, List.length_range, Int.sub_zero]
      omega
  rw [this]
  unfold rangeV
  rw [List.length_map, List.length_range]
theorem len_of (i : IsBk h B low high tab fresh times bonus) (hf : fresh ≤ 2) (l0 : 0 ≤ low) (hle : low ≤ high) (h1 : high ≤ 23) : c_Book___len__ [B] h = .ok (.int ((high + 1 - low).toNat * (lastp fresh bonus + 1).toNat : Nat)) h := by
  refine (run_rt (fn := fin) (d := .int ((high + 1 - low).toNat * (lastp fresh bonus + 1).toNat : Nat)) (h' := h) rfl ?_).trans (fin_same _ _)
  unfold b_Book___len__
  refine ret_ok ?_
  rw [ap_it, meth_of (cf := c_Book_places) (e := startE 1 [B]) (f := eVar 0) (h := h) (h1 := h) (B := B) rfl i rfl rfl (places_of i hf l0 hle h1), ap_bindOk, it_lst, ← placesV_len]
  rfl
end
end Bk
end
section
set_option maxRecDepth 10000
set_option maxHeartbeats 1000000
namespace Bk
open PySem L2 Lad
theorem mapO_id {f : Val → Option Val} : ∀ {xs : List Val}, (∀ v ∈ xs, f v = some v) → mapO f xs = some xs
  | [], _ => rfl
  | x :: xs, w => by
    unfold mapO
    rw [w x List.mem_cons_self, mapO_id fun v hv => w v (List.mem_cons_of_mem _ hv)]
theorem frz_ent (f n : Nat) (h : Hea) (en : Ent) : frz (f + 1) n h (entV en) = some (entV en) := by
  cases en with
  | none => unfold entV frz; rfl
  | some q => cases f <;> rfl
theorem frz_row (f n : Nat) (h : Hea) (r : Row) : frz (f + 2) n h (rowV r) = some (rowV r) := by
  unfold rowV
  show (mapO (frz (f + 1) n h) _).map Val.tup = _
  rw [mapO_id]
  · rfl
  · intro v hv
    simp only [List.mem_cons, List.not_mem_nil, or_false] at hv
    rcases hv with rfl | rfl | rfl | rfl
    · rfl
    · exact frz_ent f n h _
    · exact frz_ent f n h _
    · exact frz_ent f n h _
theorem frz_rows (f n : Nat) (h : Hea) (rows : List Row) : mapO (frz (f + 2) n h) (rows.map rowV) = some (rows.map rowV) := mapO_id fun v hv => by
  obtain ⟨r, _, rfl⟩ := List.mem_map.mp hv
  exact frz_row f n h r
structure BkOk (low high fresh times bonus : Int) : Prop where
  l0 : 0 ≤ low
  l1 : low ≤ high
  h1 : high ≤ 23
  f0 : 0 ≤ fresh
  f2 : fresh ≤ 2
  t1 : 1 ≤ times
  t3 : times ≤ if 0 < fresh then 3 else 1
  b0 : 0 ≤ bonus
  b5 : bonus ≤ if fresh = 0 then 5 else 0
  n : (high + 1 - low).toNat * (lastp fresh bonus + 1).toNat ≤ 24
def fsV (low high : Int) (tab : Val) (fresh times bonus : Int) : List (Nat × Val) := [(0, .int low), (1, .int high), (2, tab), (3, .int fresh), (4, .int times), (5, .int bonus)]
theorem init_ok (ns : List Int) (a b low high fresh times bonus : Int) {rows : List Row} (t : TabOk rows) (k : BkOk low high fresh times bonus) (tv : Val) (ht : tv = .lst (rows.map rowV) ∨ tv = .tup (rows.map rowV)) :
    c_Book___init__ [.ref 2, .int low, .int high, tv, .int fresh, .int times, .int bonus] (Hp2 ns a b [.ins 30 []]) = .ok .non (Hp2 ns a b [.ins 30 (fsV low high (.tup (rows.map rowV)) fresh times bonus)]) := by
  obtain ⟨l0, l1, h1, f0, f2, t1, t3, b0, b5, n⟩ := k
  have hgt : ∀ (e : En) (h : Hea), e[3]? = some (some tv) → eIt gTuple (eVar 3) e h = .ok (.tup (rows.map rowV)) h := by
    intro e h he
    rw [ap_it, ap_var, he]
    rcases ht with rfl | rfl <;> rfl
  have tb := fun h => table_ok h t tv ht
  refine (run_nx (fn := fin) (e' := startE 7 [.ref 2, .int low, .int high, tv, .int fresh, .int times, .int bonus]) (h' := Hp2 ns a b [.ins 30 (fsV low high (.tup (rows.map rowV)) fresh times bonus)]) rfl ?_).trans (fin_len rfl)
  generalize hT : Val.tup (rows.map rowV) = T at *
  unfold b_Book___init__
  refine seq_if_no (not_ok (b := true) (call_eq rfl ((isi_ok _ low 0 23).trans (by rw [decide_eq_true ⟨l0, by omega⟩])))) ?_
  refine seq_if_no (not_ok (b := true) (call_eq rfl ((isi_ok _ high low 23).trans (by rw [decide_eq_true ⟨l1, h1⟩])))) ?_
  refine seq_if_no (not_ok (b := true) (call_eq rfl (tb _))) ?_
  refine seq_if_no (not_ok (b := true) (call_eq rfl ((isi_ok _ fresh 0 2).trans (by rw [decide_eq_true ⟨f0, f2⟩])))) ?_
  refine seq_if_no (h1 := Hp2 ns a b [.ins 30 []]) (not_ok (b := true) (call_eq (ds := [.int times, .int 1, .int (if 0 < fresh then 3 else 1)]) (acons_ok rfl (acons_ok rfl (acons_ok ?_ rfl))) ((isi_ok _ times 1 _).trans (by rw [decide_eq_true ⟨t1, t3⟩])))) ?_
  · by_cases hf : 0 < fresh
    · rw [if_pos hf]; exact if_t (bin_ok (d := .int fresh) rfl rfl (by rw [Lad.op_gt, decide_eq_true hf])) rfl
    · rw [if_neg hf]; exact if_f (bin_ok (d := .int fresh) rfl rfl (by rw [Lad.op_gt, decide_eq_false hf])) rfl
  refine seq_if_no (h1 := Hp2 ns a b [.ins 30 []]) (not_ok (b := true) (call_eq (ds := [.int bonus, .int 0, .int (if fresh = 0 then 5 else 0)]) (acons_ok rfl (acons_ok rfl (acons_ok ?_ rfl))) ((isi_ok _ bonus 0 _).trans (by rw [decide_eq_true ⟨b0, b5⟩])))) ?_
  · have q : ∀ h : Hea, oEq h (.int fresh) (.int 0) = some (.bl (decide (fresh = 0))) := fun h => by rw [Lad.op_eq, eq_int]; rfl
    by_cases hf : fresh = 0
    · rw [if_pos hf]; exact if_t (bin_ok (d := .int fresh) rfl rfl ((q _).trans (by rw [decide_eq_true hf]))) rfl
    · rw [if_neg hf]; exact if_f (bin_ok (d := .int fresh) rfl rfl ((q _).trans (by rw [decide_eq_false hf]))) rfl
  refine seq_nx (e1 := startE 7 [.ref 2, .int low, .int high, tv, .int fresh, .int times, .int bonus]) (h1 := Hp2 ns a b [.ins 30 [(0, .int low)]]) rfl ?_
  refine seq_nx (e1 := startE 7 [.ref 2, .int low, .int high, tv, .int fresh, .int times, .int bonus]) (h1 := Hp2 ns a b [.ins 30 [(0, .int low), (1, .int high)]]) rfl ?_
  refine seq_nx (e1 := startE 7 [.ref 2, .int low, .int high, tv, .int fresh, .int times, .int bonus]) (h1 := Hp2 ns a b [.ins 30 [(0, .int low), (1, .int high), (2, T)]]) ?_ ?_
  · unfold sFldV
    rw [hgt _ _ rfl]
    rfl
  refine seq_nx (e1 := startE 7 [.ref 2, .int low, .int high, tv, .int fresh, .int times, .int bonus]) (h1 := Hp2 ns a b [.ins 30 [(0, .int low), (1, .int high), (2, T), (3, .int fresh)]]) rfl ?_
  refine seq_nx (e1 := startE 7 [.ref 2, .int low, .int high, tv, .int fresh, .int times, .int bonus]) (h1 := Hp2 ns a b [.ins 30 [(0, .int low), (1, .int high), (2, T), (3, .int fresh), (4, .int times)]]) rfl ?_
  refine seq_nx (e1 := startE 7 [.ref 2, .int low, .int high, tv, .int fresh, .int times, .int bonus]) (h1 := Hp2 ns a b [.ins 30 (fsV low high T fresh times bonus)]) rfl ?_
  have ib : IsBk (Hp2 ns a b [.ins 30 (fsV low high T fresh times bonus)]) (.ref 2) low high T fresh times bonus := rfl
  have ln := len_of ib f2 l0 l1 h1
  refine if_no (bin_ok (lenO_of rfl ib ln (by omega) (by omega)) (d2 := .int 24) rfl ?_)
  rw [Lad.op_gt, decide_eq_false (by omega)]
end Bk
end
section
set_option maxRecDepth 10000
set_option maxHeartbeats 1000000
namespace Sp
open PySem L2 Lad Bk
end Sp
end
section
set_option maxRecDepth 10000
set_option maxHeartbeats 1000000
namespace Sp
open PySem L2 Lad Bk
theorem seq_rt {s1 s2 : En → Hea → SRes} {e : En} {h h1 : Hea} {d : Val} (a : s1 e h = .rt d h1) : sSeq s1 s2 e h = .rt d h1 := by rw [ap_seq, a]
end Sp
end
section
set_option maxRecDepth 10000
namespace Lad
open PySem L2
def noB : Nat → Val → Bool
  | _, .non => true
  | _, .int _ => true
  | _, .str x => PyData.strOk x
  | n + 1, .tup xs => xs.all (noB n)
  | n + 1, .lst xs => xs.all (noB n)
  | _, _ => false
theorem mapO_all {α β : Type} {f : α → Option β} {P : β → Prop} : ∀ {xs : List α}, (∀ x ∈ xs, ∃ y, f x = some y ∧ P y) → ∃ ys, mapO f xs = some ys ∧ ∀ y ∈ ys, P y
  | [], _ => ⟨[], rfl, fun _ h => nomatch h⟩
  | x :: xs, w => by
    obtain ⟨y, e, p⟩ := w x List.mem_cons_self
    obtain ⟨ys, es, ps⟩ := mapO_all (xs := xs) fun z hz => w z (List.mem_cons_of_mem _ hz)
    refine ⟨y :: ys, by simp only [mapO, e, es], fun z hz => ?_⟩
    rcases List.mem_cons.mp hz with rfl | hz
    · exact p
    · exact ps z hz
theorem canAll : ∀ {ys : List PyData}, (∀ y ∈ ys, y.canLay0 = true) → PyData.canLayAll0 ys = true
  | [], _ => by unfold PyData.canLayAll0; rfl
  | y :: ys, w => by
    unfold PyData.canLayAll0
    rw [w y List.mem_cons_self, canAll fun z hz => w z (List.mem_cons_of_mem _ hz)]
    rfl
theorem depAll {n : Nat} : ∀ {ys : List PyData}, (∀ y ∈ ys, y.depth ≤ n) → PyData.depthAll ys ≤ n
  | [], _ => by unfold PyData.depthAll; omega
  | y :: ys, w => by
    unfold PyData.depthAll
    have h1 := w y List.mem_cons_self
    have h2 := depAll (ys := ys) fun z hz => w z (List.mem_cons_of_mem _ hz)
    omega
theorem toD_spec (h : Hea) : ∀ (n m : Nat) (d : Val), n ≤ m → noB n d = true → ∃ p, toD m h d = some p ∧ p.canLay0 = true ∧ p.depth ≤ n + 1
  | n, m, .non, _, _ => ⟨.none, by unfold toD; rfl, by simp [PyData.canLay0], by simp [PyData.depth]⟩
  | n, m, .int i, _, _ => ⟨.int i, by unfold toD; rfl, by simp [PyData.canLay0], by simp [PyData.depth]⟩
  | n, m, .str x, _, e => ⟨.str x, by unfold toD; rfl, by
    have : PyData.strOk x = true := by cases n <;> exact e
    simpa [PyData.canLay0] using this, by simp [PyData.depth]⟩
  | n + 1, m + 1, .tup xs, hm, e => by
    have hx : ∀ x ∈ xs, noB n x = true := fun x hx => List.all_eq_true.mp e x hx
    obtain ⟨ys, es, ps⟩ := mapO_all (f := toD m h) (P := fun p => p.canLay0 = true ∧ p.depth ≤ n + 1) (xs := xs) fun x hx' => toD_spec h n m x (by omega) (hx x hx')
    refine ⟨.tuple ys, by unfold toD; rw [es], ?_, ?_⟩
    · unfold PyData.canLay0; exact canAll fun y hy => (ps y hy).1
    · unfold PyData.depth
      have := depAll fun y hy => (ps y hy).2
      omega
  | n + 1, m + 1, .lst xs, hm, e => by
    have hx : ∀ x ∈ xs, noB n x = true := fun x hx => List.all_eq_true.mp e x hx
    obtain ⟨ys, es, ps⟩ := mapO_all (f := toD m h) (P := fun p => p.canLay0 = true ∧ p.depth ≤ n + 1) (xs := xs) fun x hx' => toD_spec h n m x (by omega) (hx x hx')
    refine ⟨.list ys, by unfold toD; rw [es], ?_, ?_⟩
    · unfold PyData.canLay0; exact canAll fun y hy => (ps y hy).1
    · unfold PyData.depth
      have := depAll fun y hy => (ps y hy).2
      omega
  | 0, _, .tup _, _, e => by cases e
  | 0, _, .lst _, _, e => by cases e
  | 0, _, .bl _, _, e => by cases e
  | 0, _, .dic _ _ _, _, e => by cases e
  | 0, _, .obj _ _ _, _, e => by cases e
  | 0, _, .ref _, _, e => by cases e
  | 0, _, .exn _ _, _, e => by cases e
  | _ + 1, _, .bl _, _, e => by cases e
  | _ + 1, _, .dic _ _ _, _, e => by cases e
  | _ + 1, _, .obj _ _ _, _, e => by cases e
  | _ + 1, _, .ref _, _, e => by cases e
  | _ + 1, _, .exn _ _, _, e => by cases e
  | n + 1, 0, .tup _, hm, _ => by omega
  | n + 1, 0, .lst _, hm, _ => by omega
theorem mapO_inv {α β : Type} {f : α → Option β} : ∀ {xs : List α} {ys : List β}, mapO f xs = some ys → xs.length = ys.length ∧ ∀ i (h1 : i < xs.length) (h2 : i < ys.length), f xs[i] = some ys[i]
  | [], ys, e => by cases e; exact ⟨rfl, fun i h => by simp at h⟩
  | x :: xs, ys, e => by
    unfold mapO at e
    split at e
    · rename_i y zs e1 e2
      cases e
      obtain ⟨l, w⟩ := mapO_inv e2
      refine ⟨by simp [l], fun i h1 h2 => ?_⟩
      cases i with
      | zero => exact e1
      | succ i => exact w i (by simpa using h1) (by simpa using h2)
    · cases e
theorem eqvAll_iff {f : Val → Option PyData} {P : Val → Prop} (w : ∀ x, P x → ∀ y, P y → ∀ p q, f x = some p → f y = some q → (PyData.eqv p q = true ↔ x = y)) : ∀ {xs ys : List Val} {ps qs : List PyData}, (∀ x ∈ xs, P x) → (∀ y ∈ ys, P y) → mapO f xs = some ps → mapO f ys = some qs → (PyData.eqvAll ps qs = true ↔ xs = ys)
  | [], [], _, _, _, _, e1, e2 => by cases e1; cases e2; unfold PyData.eqvAll; simp
  | [], y :: ys, _, qs, _, _, e1, e2 => by
    cases e1
    have := (mapO_inv e2).1
    cases qs with
    | nil => simp at this
    | cons q qs => unfold PyData.eqvAll; simp
  | x :: xs, [], ps, _, _, _, e1, e2 => by
    cases e2
    have := (mapO_inv e1).1
    cases ps with
    | nil => simp at this
    | cons q qs => unfold PyData.eqvAll; simp
  | x :: xs, y :: ys, ps, qs, hx, hy, e1, e2 => by
    unfold mapO at e1 e2
    split at e1
    · rename_i p ps' a1 a2
      cases e1
      split at e2
      · rename_i q qs' b1 b2
        cases e2
        have i1 := w x (hx x List.mem_cons_self) y (hy y List.mem_cons_self) p q a1 b1
        have i2 := eqvAll_iff w (fun z hz => hx z (List.mem_cons_of_mem _ hz)) (fun z hz => hy z (List.mem_cons_of_mem _ hz)) a2 b2
        unfold PyData.eqvAll
        rw [Bool.and_eq_true, i1, i2, List.cons.injEq]
      · cases e2
    · cases e1
theorem toD_inv_tup {m : Nat} {h : Hea} {xs : List Val} {p : PyData} (e : toD m h (.tup xs) = some p) : ∃ n ps, m = n + 1 ∧ mapO (toD n h) xs = some ps ∧ p = .tuple ps := by
  cases m with
  | zero => unfold toD at e; cases e
  | succ n =>
    unfold toD at e
    split at e
    · rename_i ys e1; cases e; exact ⟨n, ys, rfl, e1, rfl⟩
    · cases e
theorem toD_inv_lst {m : Nat} {h : Hea} {xs : List Val} {p : PyData} (e : toD m h (.lst xs) = some p) : ∃ n ps, m = n + 1 ∧ mapO (toD n h) xs = some ps ∧ p = .list ps := by
  cases m with
  | zero => unfold toD at e; cases e
  | succ n =>
    unfold toD at e
    split at e
    · rename_i ys e1; cases e; exact ⟨n, ys, rfl, e1, rfl⟩
    · cases e
theorem toD_int {m : Nat} {h : Hea} {i : Int} {p : PyData} (e : toD m h (.int i) = some p) : p = .int i := by unfold toD at e; cases m <;> (cases e; rfl)
theorem toD_non {m : Nat} {h : Hea} {p : PyData} (e : toD m h .non = some p) : p = .none := by unfold toD at e; cases m <;> (cases e; rfl)
theorem toD_strV {m : Nat} {h : Hea} {x : Str} {p : PyData} (e : toD m h (.str x) = some p) : p = .str x := by unfold toD at e; cases m <;> (cases e; rfl)
theorem eqv_iff (h : Hea) : ∀ (n m : Nat) (d d' : Val), noB n d = true → noB n d' = true → ∀ p q, toD m h d = some p → toD m h d' = some q → (PyData.eqv p q = true ↔ d = d') := by
  intro n
  induction n with
  | zero =>
    intro m d d' hd hd' p q e1 e2
    cases d <;> (first | (cases hd; done) | skip) <;> cases d' <;> (first | (cases hd'; done) | skip)
    all_goals (first | rw [toD_int e1] | rw [toD_non e1] | rw [toD_strV e1]) <;> (first | rw [toD_int e2] | rw [toD_non e2] | rw [toD_strV e2]) <;> simp [PyData.eqv]
  | succ n ih =>
    intro m d d' hd hd' p q e1 e2
    cases d <;> (first | (cases hd; done) | skip) <;> cases d' <;> (first | (cases hd'; done) | skip)
    case tup.tup xs ys =>
      obtain ⟨m1, ps, hm, a1, rfl⟩ := toD_inv_tup e1
      obtain ⟨m2, qs, hm2, a2, rfl⟩ := toD_inv_tup e2
      have : m1 = m2 := by omega
      subst this
      unfold PyData.eqv
      rw [eqvAll_iff (P := fun x => noB n x = true) (fun x hx y hy p q e1 e2 => ih m1 x y hx hy p q e1 e2) (fun x hx => List.all_eq_true.mp hd x hx) (fun x hx => List.all_eq_true.mp hd' x hx) a1 a2]
      simp
    case lst.lst xs ys =>
      obtain ⟨m1, ps, hm, a1, rfl⟩ := toD_inv_lst e1
      obtain ⟨m2, qs, hm2, a2, rfl⟩ := toD_inv_lst e2
      have : m1 = m2 := by omega
      subst this
      unfold PyData.eqv
      rw [eqvAll_iff (P := fun x => noB n x = true) (fun x hx y hy p q e1 e2 => ih m1 x y hx hy p q e1 e2) (fun x hx => List.all_eq_true.mp hd x hx) (fun x hx => List.all_eq_true.mp hd' x hx) a1 a2]
      simp
    all_goals (first | rw [toD_int e1] | rw [toD_non e1] | rw [toD_strV e1] | (obtain ⟨_, _, _, _, rfl⟩ := toD_inv_tup e1) | (obtain ⟨_, _, _, _, rfl⟩ := toD_inv_lst e1)) <;> (first | rw [toD_int e2] | rw [toD_non e2] | rw [toD_strV e2] | (obtain ⟨_, _, _, _, rfl⟩ := toD_inv_tup e2) | (obtain ⟨_, _, _, _, rfl⟩ := toD_inv_lst e2)) <;> simp [PyData.eqv]
theorem shaped_of {p : PyData} {n : Nat} (h1 : p.canLay0 = true) (h2 : p.depth ≤ n + 1) (hn : n ≤ 60) : SeqAt.shaped p = true := by
  unfold SeqAt.shaped
  rw [h1, decide_eq_true (by omega)]
  rfl
/-- plain data are compared as data -/
theorem eqB_data (h : Hea) (n : Nat) (hn : n ≤ 60) {d d' : Val} (hd : noB n d = true) (hd' : noB n d' = true) : ∃ c : Bool, eqB h d d' = some c ∧ (c = true ↔ d = d') := by
  obtain ⟨p, e1, c1, l1⟩ := toD_spec h n 60 d hn hd
  obtain ⟨q, e2, c2, l2⟩ := toD_spec h n 60 d' hn hd'
  refine ⟨PyData.eqv p q, ?_, eqv_iff h n 60 d d' hd hd' p q e1 e2⟩
  unfold eqB
  rw [e1, e2]
  dsimp only
  rw [if_pos ⟨shaped_of c1 l1 hn, shaped_of c2 l2 hn⟩]
theorem eq_same (h : Hea) (n : Nat) {d : Val} (hd : noB n d = true) (hn : n ≤ 60 := by decide) : oEq h d d = some (.bl true) := by
  obtain ⟨c, e, w⟩ := eqB_data h n hn hd hd
  rw [op_eq, e, w.mpr rfl]; rfl
theorem ne_eq (h : Hea) (n : Nat) {d : Val} (hd : noB n d = true) (hn : n ≤ 60 := by decide) : oNe h d d = some (.bl false) := by
  obtain ⟨c, e, w⟩ := eqB_data h n hn hd hd
  rw [op_ne, e, w.mpr rfl]; rfl
theorem eq_other (h : Hea) (n : Nat) {d d' : Val} (hd : noB n d = true) (hd' : noB n d' = true) (x : d ≠ d') (hn : n ≤ 60 := by decide) : oEq h d d' = some (.bl false) := by
  obtain ⟨c, e, w⟩ := eqB_data h n hn hd hd'
  have : c = false := by cases c with | false => rfl | true => exact absurd (w.mp rfl) x
  rw [op_eq, e, this]; rfl
/-- a held list is compared as its items -/
theorem toD_ref {h : Hea} {i : Nat} {xs : List Val} (e : lstAt h i = some xs) (n : Nat) : toD n h (.ref i) = toD n h (.lst xs) := by
  cases n with
  | zero => rfl
  | succ n => unfold toD; rw [e]
theorem eqB_refL {h : Hea} {i : Nat} {xs : List Val} {d : Val} (e : lstAt h i = some xs) : eqB h (.ref i) d = eqB h (.lst xs) d := by unfold eqB; rw [toD_ref e]
end Lad
end
section
set_option maxRecDepth 10000
set_option maxHeartbeats 1000000
namespace Sp
open PySem L2 Lad Bk
theorem asc_app : ∀ {rows : List Row} {r q : Row}, asc rows → rows.getLast? = some q → q.1 < r.1 → asc (rows ++ [r])
  | [], _, _, _, e, _ => by cases e
  | [a], r, q, _, e, hl => by
    simp at e
    subst e
    exact ⟨hl, trivial⟩
  | a :: b :: t, r, q, as, e, hl => ⟨as.1, asc_app as.2 (by simpa [List.getLast?_cons_cons] using e) hl⟩
theorem tab_app {rows : List Row} {r q : Row} (t : TabOk rows) (hl : rows.length < 6) (ok : RowOk r) (e : rows.getLast? = some q) (lt : q.1 < r.1) : TabOk (rows ++ [r]) := by
  obtain ⟨n0, n6, o, ⟨z, z1, z2⟩, as⟩ := t
  refine ⟨by simp, by simp; omega, fun x hx => ?_, ⟨z, ?_, z2⟩, asc_app as e lt⟩
  · rcases List.mem_append.mp hx with hx | hx
    · exact o x hx
    · simp at hx
      rw [hx]; exact ok
  · rw [List.getElem?_append_left n0]; exact z1
theorem tab_one {r : Row} (ok : RowOk r) (z : r.1 = 0) : TabOk [r] := ⟨by simp, by simp, fun x hx => by simp at hx; rw [hx]; exact ok, ⟨r, rfl, z⟩, trivial⟩
end Sp
end
section
set_option maxRecDepth 10000
set_option maxHeartbeats 1000000
namespace Sp
open PySem L2 Lad Bk
theorem row_there {rows : List Row} (t : TabOk rows) {d : Int} (h0 : 0 ≤ d) : ∃ r ∈ rows, (Bk.upTo rows d).getLast? = some r := by
  obtain ⟨z, z1, z2⟩ := t.z
  have hm : z ∈ Bk.upTo rows d := by
    unfold Bk.upTo
    rw [List.mem_filter]
    exact ⟨List.mem_of_getElem? z1, decide_eq_true (by omega)⟩
  cases hq : Bk.upTo rows d with
  | nil => rw [hq] at hm; cases hm
  | cons c cs =>
    refine ⟨(c :: cs).getLast (by simp), ?_, List.getLast?_eq_some_getLast (by simp)⟩
    have : (c :: cs).getLast (by simp) ∈ Bk.upTo rows d := by rw [hq]; exact List.getLast_mem _
    unfold Bk.upTo at this
    exact (List.mem_filter.mp this).1
end Sp
end
section
set_option maxRecDepth 10000
set_option maxHeartbeats 1000000
namespace Lad
open PySem L2
section
variable {α β : Type} {f g f1 f2 f3 : En → Hea → Res Val} {s s1 s2 : En → Hea → SRes} {l l2 : En → Hea → Res (List Val)} {e e1 : En} {h h1 h2 : Hea} {b : Val → En → Option En} {src : En → Hea → Res Src} {xs ys ds : List Val} {dead own is : List Nat} {d d1 d2 x y v : Val} {c c' n m i j : Nat} {o o' : Hea → Val → Val → Option Val} {cf : List Val → Hea → Res Val} {ok : Nat → Bool} {ng t : Bool} {fs : List (Nat × Val)} {kvs : List (Val × Val)} {ks vs : List Val} {z w : Int} {q : Str} {gi : List Val → Option Val} {gc : Hea → List Val → Option Val}
theorem v00 {a : α} {k : α → Hea → Res β} : (Res.ok a h).bind k = k a h := rfl
theorem v01 {k : α → Hea → Res β} : (Res.exc c d h : Res α).bind k = .exc c d h := rfl
theorem v02 {a : α} {k : α → Hea → SRes} : ofR (.ok a h) e k = k a h := rfl
theorem v03 {k : α → Hea → SRes} : ofR (Res.exc c d h : Res α) e k = .exc c d e h := rfl
theorem v04 {a : α} : noX (.ok a h) = .ok a h := rfl
theorem v05 : opt (some d) h = .ok d h := rfl
def varR (o : Option (Option Val)) (h : Hea) : Res Val := match o with | some (some d) => .ok d h | _ => .stuck
theorem v06 : eVar i e h = varR e[i]? h := rfl
theorem v07 : varR (some (some d)) h = .ok d h := rfl
theorem v08 : eC d e h = .ok d h := rfl
def B2 (o : Hea → Val → Val → Option Val) (x y : Val) (h : Hea) : Res Val := opt (o h x y) h
def B1 (o : Hea → Val → Val → Option Val) (f2 : En → Hea → Res Val) (e : En) (x : Val) (h : Hea) : Res Val := (f2 e h).bind (B2 o x)
theorem v09 : eBin o f1 f2 e h = (f1 e h).bind (B1 o f2 e) := rfl
theorem v10 : B1 o f2 e x h = (f2 e h).bind (B2 o x) := rfl
theorem v11 : B2 o x y h = opt (o h x y) h := rfl
def U1 (o : Hea → Val → Option Val) (x : Val) (h : Hea) : Res Val := opt (o h x) h
theorem v12 {o : Hea → Val → Option Val} : eUn o f e h = (f e h).bind (U1 o) := rfl
theorem v13 {o : Hea → Val → Option Val} : U1 o x h = opt (o h x) h := rfl
def A1 (f2 : En → Hea → Res Val) (e : En) (x : Val) (h : Hea) : Res Val := match x with | .bl true => f2 e h | .bl false => .ok (.bl false) h | _ => .stuck
def O1 (f2 : En → Hea → Res Val) (e : En) (x : Val) (h : Hea) : Res Val := match x with | .bl true => .ok (.bl true) h | .bl false => f2 e h | _ => .stuck
def I1 (f2 f3 : En → Hea → Res Val) (e : En) (x : Val) (h : Hea) : Res Val := match x with | .bl true => f2 e h | .bl false => f3 e h | _ => .stuck
theorem v14 : eAnd f1 f2 e h = (f1 e h).bind (A1 f2 e) := rfl
theorem v15 : A1 f2 e (.bl true) h = f2 e h := rfl
theorem v16 : A1 f2 e (.bl false) h = .ok (.bl false) h := rfl
theorem v17 : eOr f1 f2 e h = (f1 e h).bind (O1 f2 e) := rfl
theorem v18 : O1 f2 e (.bl true) h = .ok (.bl true) h := rfl
theorem v19 : O1 f2 e (.bl false) h = f2 e h := rfl
theorem v20 : eIf f1 f2 f3 e h = (f1 e h).bind (I1 f2 f3 e) := rfl
theorem v21 : I1 f2 f3 e (.bl true) h = f2 e h := rfl
theorem v22 : I1 f2 f3 e (.bl false) h = f3 e h := rfl
def C3 (o : Option Val) (y : Val) (o' : Hea → Val → Val → Option Val) (f3 : En → Hea → Res Val) (e : En) (h : Hea) : Res Val := match o with | some (.bl true) => (f3 e h).bind (B2 o' y) | some (.bl false) => .ok (.bl false) h | _ => .stuck
def C2 (o o' : Hea → Val → Val → Option Val) (f3 : En → Hea → Res Val) (e : En) (x y : Val) (h : Hea) : Res Val := C3 (o h x y) y o' f3 e h
def C1 (o o' : Hea → Val → Val → Option Val) (f2 f3 : En → Hea → Res Val) (e : En) (x : Val) (h : Hea) : Res Val := (f2 e h).bind (C2 o o' f3 e x)
theorem v23 : eChain o o' f1 f2 f3 e h = (f1 e h).bind (C1 o o' f2 f3 e) := rfl
theorem v24 : C1 o o' f2 f3 e x h = (f2 e h).bind (C2 o o' f3 e x) := rfl
theorem v25 : C2 o o' f3 e x y h = C3 (o h x y) y o' f3 e h := rfl
theorem v26 : C3 (some (.bl true)) y o' f3 e h = (f3 e h).bind (B2 o' y) := rfl
theorem v27 : C3 (some (.bl false)) y o' f3 e h = .ok (.bl false) h := rfl
def N2 (x : Val) (xs : List Val) (h : Hea) : Res (List Val) := .ok (x :: xs) h
def N1 (l : En → Hea → Res (List Val)) (e : En) (x : Val) (h : Hea) : Res (List Val) := (l e h).bind (N2 x)
theorem v28 : aNil e h = .ok [] h := rfl
theorem v29 : aCons f l e h = (f e h).bind (N1 l e) := rfl
theorem v30 : N1 l e x h = (l e h).bind (N2 x) := rfl
theorem v31 : N2 x xs h = .ok (x :: xs) h := rfl
def S2 (ys xs : List Val) (h : Hea) : Res (List Val) := .ok (ys ++ xs) h
def S1 (o : Option (List Val)) (l : En → Hea → Res (List Val)) (e : En) (h : Hea) : Res (List Val) := match o with | some ys => (l e h).bind (S2 ys) | none => .stuck
def S0 (l : En → Hea → Res (List Val)) (e : En) (x : Val) (h : Hea) : Res (List Val) := S1 (itemsOf h x) l e h
theorem v32 : aStar f l e h = (f e h).bind (S0 l e) := rfl
theorem v33 : S0 l e x h = S1 (itemsOf h x) l e h := rfl
theorem v34 : S1 (some ys) l e h = (l e h).bind (S2 ys) := rfl
theorem v35 : S2 ys xs h = .ok (ys ++ xs) h := rfl
def Cb (o : Hea → List Val → Option Val) (ds : List Val) (h : Hea) : Res Val := opt (o h ds) h
theorem v36 : eCB gc l e h = (l e h).bind (Cb gc) := rfl
theorem v37 : Cb gc ds h = opt (gc h ds) h := rfl
theorem v38 : eCall cf l e h = (l e h).bind cf := rfl
theorem v39 : eCall0 cf e h = cf [] h := rfl
def It2 (o : Option (List Val)) (g : List Val → Option Val) (h : Hea) : Res Val := match o with | some xs => opt (g xs) h | none => .stuck
def It1 (g : List Val → Option Val) (d : Val) (h : Hea) : Res Val := It2 (itemsOf h d) g h
def Il1 (g : List Val → Option Val) (d : Val) (h : Hea) : Res Val := It2 (lstOf h d) g h
def Il0 (g : List Val → Option Val) (xs : List Val) (h : Hea) : Res Val := opt (g xs) h
theorem v40 : eIt gi f e h = (f e h).bind (It1 gi) := rfl
theorem v41 : It1 gi d h = It2 (itemsOf h d) gi h := rfl
theorem v42 : It2 (some xs) gi h = opt (gi xs) h := rfl
theorem v43 : eIl gi f e h = (f e h).bind (Il1 gi) := rfl
theorem v44 : Il1 gi d h = It2 (lstOf h d) gi h := rfl
theorem v45 : eItL gi l e h = (l e h).bind (Il0 gi) := rfl
theorem v46 : Il0 gi xs h = opt (gi xs) h := rfl
def T1 (xs : List Val) (h : Hea) : Res Val := if xs.length ≤ 16777216 then .ok (.tup xs) h else .stuck
def L1 (xs : List Val) (h : Hea) : Res (List Val) := if xs.length ≤ 16777216 then .ok xs h else .stuck
def L2f (xs : List Val) (h : Hea) : Res Val := .ok (.lst xs) h
def L3 (xs : List Val) (h : Hea) : Res Val := .ok (.ref h.length) (h ++ [.lst xs])
theorem v47 : eTup l e h = (l e h).bind T1 := rfl
theorem v48 : T1 xs h = if xs.length ≤ 16777216 then .ok (.tup xs) h else .stuck := rfl
theorem v49 : lDisp l e h = (l e h).bind L1 := rfl
theorem v50 : L1 xs h = if xs.length ≤ 16777216 then .ok xs h else .stuck := rfl
theorem v51 : eLst l e h = (l e h).bind L2f := rfl
theorem v52 : L2f xs h = .ok (.lst xs) h := rfl
theorem v53 : eNew l e h = (l e h).bind L3 := rfl
theorem v54 : L3 xs h = .ok (.ref h.length) (h ++ [.lst xs]) := rfl
def F3 (o : Option Val) (h : Hea) : Res Val := match o with | some d => .ok d h | none => .stuck
def F2 (o : Option (Nat × List (Nat × Val))) (ok : Nat → Bool) (n : Nat) (h : Hea) : Res Val := match o with | some (c, fs) => if ok c = true then F3 (lkF fs n) h else .stuck | none => .stuck
def F1 (ok : Nat → Bool) (n : Nat) (d : Val) (h : Hea) : Res Val := F2 (insOf h d) ok n h
theorem v55 : eFld ok n f e h = (f e h).bind (F1 ok n) := by
  first | rfl | (unfold eFld; congr 1)
theorem v56 : F1 ok n d h = F2 (insOf h d) ok n h := rfl
theorem v57 (p : ok c = true) : F2 (some (c, fs)) ok n h = F3 (lkF fs n) h := if_pos p
theorem v58 : F3 (some d) h = .ok d h := rfl
def M3 (cf : List Val → Hea → Res Val) (d : Val) (ds : List Val) (h : Hea) : Res Val := cf (d :: ds) h
def M2 (o : Option (Nat × List (Nat × Val))) (d : Val) (c n : Nat) (cf : List Val → Hea → Res Val) (l : En → Hea → Res (List Val)) (e : En) (h : Hea) : Res Val := match o with | some (c', fs) => if c' = c ∧ noF fs n = true then (l e h).bind (M3 cf d) else .stuck | none => .stuck
def M1f (c n : Nat) (cf : List Val → Hea → Res Val) (l : En → Hea → Res (List Val)) (e : En) (d : Val) (h : Hea) : Res Val := M2 (insOf h d) d c n cf l e h
theorem v59 : eMeth c n cf f l e h = (f e h).bind (M1f c n cf l e) := by
  first | rfl | (unfold eMeth; congr 1)
theorem v60 : M1f c n cf l e d h = M2 (insOf h d) d c n cf l e h := rfl
theorem v61 : M2 (some (c, fs)) d c n cf l e h = if noF fs n = true then (l e h).bind (M3 cf d) else .stuck := by
  unfold M2
  simp only [true_and]
theorem v62 : M3 cf d ds h = cf (d :: ds) h := rfl
def J3 (o : Option (Nat × List (Nat × Val))) (c : Nat) (ng : Bool) (cf : List Val → Hea → Res Val) (x y : Val) (h : Hea) : Res Val := match o with | some (c', _) => if c' = c then blR ng (cf [y, x] h) else .stuck | none => .stuck
def J2 (c : Nat) (ng : Bool) (cf : List Val → Hea → Res Val) (x y : Val) (h : Hea) : Res Val := J3 (insOf h y) c ng cf x y h
def J1 (c : Nat) (ng : Bool) (cf : List Val → Hea → Res Val) (f2 : En → Hea → Res Val) (e : En) (x : Val) (h : Hea) : Res Val := (f2 e h).bind (J2 c ng cf x)
theorem v63 : eInO c ng cf f1 f2 e h = (f1 e h).bind (J1 c ng cf f2 e) := rfl
theorem v64 : J1 c ng cf f2 e x h = (f2 e h).bind (J2 c ng cf x) := rfl
theorem v65 : J2 c ng cf x y h = J3 (insOf h y) c ng cf x y h := rfl
theorem v66 : J3 (some (c, fs)) c ng cf x y h = blR ng (cf [y, x] h) := if_pos rfl
theorem v67 : blR ng (.ok (.bl t) h) = .ok (.bl (if ng = true then !t else t)) h := rfl
theorem v68 : blR ng (.exc c d h) = .exc c d h := rfl
def X3 (o : Option (Nat × List (Nat × Val))) (c : Nat) (cf : List Val → Hea → Res Val) (x y : Val) (h : Hea) : Res Val := match o with | some (c', _) => if c' = c then cf [x, y] h else .stuck | none => .stuck
def X2 (c : Nat) (cf : List Val → Hea → Res Val) (x y : Val) (h : Hea) : Res Val := X3 (insOf h x) c cf x y h
def X1 (c : Nat) (cf : List Val → Hea → Res Val) (f2 : En → Hea → Res Val) (e : En) (x : Val) (h : Hea) : Res Val := (f2 e h).bind (X2 c cf x)
theorem v69 : eIxO c cf f1 f2 e h = (f1 e h).bind (X1 c cf f2 e) := rfl
theorem v70 : X1 c cf f2 e x h = (f2 e h).bind (X2 c cf x) := rfl
theorem v71 : X2 c cf x y h = X3 (insOf h x) c cf x y h := rfl
theorem v72 : X3 (some (c, fs)) c cf x y h = cf [x, y] h := if_pos rfl
def Q3 (o : Option (Nat × List (Nat × Val))) (ty : Option TY) (ne : Bool) (c : Nat) (okc : Nat → Bool) (cf : List Val → Hea → Res Val) (x y : Val) (h : Hea) : Res Val := match o, ty with | some (c', _), some t => if c' = c ∧ okTY okc t = true then (match ne with | true => notR (cf [x, y] h) | false => cf [x, y] h) else .stuck | _, _ => .stuck
def Q2 (ne : Bool) (c : Nat) (okc : Nat → Bool) (cf : List Val → Hea → Res Val) (x y : Val) (h : Hea) : Res Val := Q3 (insOf h x) (tyY h y) ne c okc cf x y h
def Q1 (ne : Bool) (c : Nat) (okc : Nat → Bool) (cf : List Val → Hea → Res Val) (f2 : En → Hea → Res Val) (e : En) (x : Val) (h : Hea) : Res Val := (f2 e h).bind (Q2 ne c okc cf x)
theorem v73 : eCmpO c ok cf f1 f2 e h = (f1 e h).bind (Q1 false c ok cf f2 e) := by
  first | rfl | (unfold eCmpO; congr 1)
theorem v74 : eNeO c ok cf f1 f2 e h = (f1 e h).bind (Q1 true c ok cf f2 e) := by
  first | rfl | (unfold eNeO; congr 1)
theorem v75 : Q1 t c ok cf f2 e x h = (f2 e h).bind (Q2 t c ok cf x) := rfl
theorem v76 : Q2 t c ok cf x y h = Q3 (insOf h x) (tyY h y) t c ok cf x y h := rfl
theorem v77 {u : TY} (p : okTY ok u = true) : Q3 (some (c, fs)) (some u) false c ok cf x y h = cf [x, y] h := if_pos ⟨rfl, p⟩
theorem v78 {u : TY} (p : okTY ok u = true) : Q3 (some (c, fs)) (some u) true c ok cf x y h = notR (cf [x, y] h) := if_pos ⟨rfl, p⟩
theorem v79 : notR (.ok (.bl t) h) = .ok (.bl (!t)) h := rfl
def Y3 (o : Option (Nat × List (Nat × Val))) (c : Nat) (cf : List Val → Hea → Res Val) (d : Val) (ds : List Val) (h : Hea) : Res Val := match o with | some (c', _) => if c' = c then cf (d :: ds) h else .stuck | none => .stuck
def Y2 (c : Nat) (cf : List Val → Hea → Res Val) (d : Val) (ds : List Val) (h : Hea) : Res Val := Y3 (insOf h d) c cf d ds h
def Y1 (o : Option (Nat × List (Nat × Val))) (c : Nat) (cf : List Val → Hea → Res Val) (l : En → Hea → Res (List Val)) (e : En) (d : Val) (h : Hea) : Res Val := match o with | some _ => (l e h).bind (Y2 c cf d) | none => .stuck
def Y0 (c : Nat) (cf : List Val → Hea → Res Val) (l : En → Hea → Res (List Val)) (e : En) (d : Val) (h : Hea) : Res Val := Y1 (insOf h d) c cf l e d h
theorem v80 : eCallO c cf f l e h = (f e h).bind (Y0 c cf l e) := rfl
theorem v81 : Y0 c cf l e d h = Y1 (insOf h d) c cf l e d h := rfl
theorem v82 {p : Nat × List (Nat × Val)} : Y1 (some p) c cf l e d h = (l e h).bind (Y2 c cf d) := rfl
theorem v83 : Y2 c cf d ds h = Y3 (insOf h d) c cf d ds h := rfl
theorem v84 : Y3 (some (c, fs)) c cf d ds h = cf (d :: ds) h := if_pos rfl
def Z3 (z : Val) (h : Hea) : Res Val := match z with | .int n => if 0 ≤ n ∧ n < 9223372036854775808 then .ok (.int n) h else .stuck | _ => .stuck
def Z2 (o : Option (Nat × List (Nat × Val))) (c : Nat) (cf : List Val → Hea → Res Val) (d : Val) (h : Hea) : Res Val := match o with | some (c', _) => if c' = c then (noX (cf [d] h)).bind Z3 else .stuck | none => .stuck
def Z1 (c : Nat) (cf : List Val → Hea → Res Val) (d : Val) (h : Hea) : Res Val := Z2 (insOf h d) c cf d h
theorem v85 : eLenO c cf f e h = (f e h).bind (Z1 c cf) := by
  first | rfl | (unfold eLenO; congr 1)
theorem v86 : Z1 c cf d h = Z2 (insOf h d) c cf d h := rfl
theorem v87 : Z2 (some (c, fs)) c cf d h = (noX (cf [d] h)).bind Z3 := if_pos rfl
theorem v88 : Z3 (.int z) h = if 0 ≤ z ∧ z < 9223372036854775808 then .ok (.int z) h else .stuck := rfl
def K1 (fn : Hea → Val → Hea → Res Val) (c : Nat) (cf : List Val → Hea → Res Val) (ds : List Val) (h : Hea) : Res Val := mkEnd fn h (cf (.ref h.length :: ds) (h ++ [.ins c []]))
theorem v89 {fn : Hea → Val → Hea → Res Val} : eMakeG fn c cf l e h = (l e h).bind (K1 fn c cf) := rfl
theorem v90 {fn : Hea → Val → Hea → Res Val} : K1 fn c cf ds h = mkEnd fn h (cf (.ref h.length :: ds) (h ++ [.ins c []])) := rfl
theorem v91 {fn : Hea → Val → Hea → Res Val} : mkEnd fn h (.ok .non h1) = fn h (.ref h.length) h1 := rfl
theorem v92 {fn : Hea → Val → Hea → Res Val} : mkEnd fn h (.exc c d h1) = .exc c d h1 := rfl
def K3 (fn : Hea → Val → Hea → Res Val) (is : List Nat) (n m c : Nat) (cf : List Val → Hea → Res Val) (ds zs : List Val) (h : Hea) : Res Val := if ds.length = n ∧ zs.length = m then mkEnd fn h (cf (pick is (.ref h.length :: (ds ++ zs))) (h ++ [.ins c []])) else .stuck
def K2 (fn : Hea → Val → Hea → Res Val) (is : List Nat) (n m c : Nat) (cf : List Val → Hea → Res Val) (l2 : En → Hea → Res (List Val)) (e : En) (ds : List Val) (h : Hea) : Res Val := (l2 e h).bind (K3 fn is n m c cf ds)
theorem v93 {fn : Hea → Val → Hea → Res Val} : eMakeKwG fn is n m c cf l l2 e h = (l e h).bind (K2 fn is n m c cf l2 e) := rfl
theorem v94 {fn : Hea → Val → Hea → Res Val} : K2 fn is n m c cf l2 e ds h = (l2 e h).bind (K3 fn is n m c cf ds) := rfl
theorem v95 {fn : Hea → Val → Hea → Res Val} : K3 fn is n m c cf ds ys h = if ds.length = n ∧ ys.length = m then mkEnd fn h (cf (pick is (.ref h.length :: (ds ++ ys))) (h ++ [.ins c []])) else .stuck := rfl
theorem v96 : pick [] xs = [] := rfl
theorem v97 (p : xs[i]? = some x) : pick (i :: is) xs = x :: pick is xs := by
  unfold pick
  rw [List.filterMap_cons, p]
def W3 (o : Option (List (Nat × Val))) (i c : Nat) (h : Hea) : Res Val := match o with | some gs => .ok .non (h.set i (.ins c gs)) | none => .stuck
def W2 (o : Option Ob) (ok : Nat → Bool) (n i : Nat) (v : Val) (h : Hea) : Res Val := match o with | some (.ins c fs) => if ok c = true ∧ fs.length < 1000 then W3 (putN n v fs) i c h else .stuck | _ => .stuck
def W1 (ok : Nat → Bool) (n : Nat) (v o : Val) (h : Hea) : Res Val := match o with | .ref i => W2 h[i]? ok n i v h | _ => .stuck
def Wf (ok : Nat → Bool) (n : Nat) (f1 : En → Hea → Res Val) (e : En) (v : Val) (h : Hea) : Res Val := (f1 e h).bind (W1 ok n v)
def kN (e : En) (_ : Val) (h : Hea) : SRes := .nx e h
theorem v98 : kN e d h = .nx e h := rfl
theorem v99 : sFldV ok n f1 f2 e h = ofR ((f2 e h).bind (Wf ok n f1 e)) e (kN e) := by
  first | rfl | (unfold sFldV; congr 1)
theorem v100 : Wf ok n f1 e v h = (f1 e h).bind (W1 ok n v) := rfl
theorem v101 : W1 ok n v (.ref i) h = W2 h[i]? ok n i v h := rfl
theorem v102 (p : ok c = true) (q : fs.length < 1000) : W2 (some (.ins c fs)) ok n i v h = W3 (putN n v fs) i c h := if_pos ⟨p, q⟩
theorem v103 : W3 (some fs) i c h = .ok .non (h.set i (.ins c fs)) := rfl
def P4 (o : Option Ob) (i : Nat) (y : Val) (h : Hea) : Res Val := match o with | some (.lst xs) => if xs.length < 16777216 then .ok .non (h.set i (.lst (xs ++ [y]))) else .stuck | _ => .stuck
def P3 (i : Nat) (y : Val) (h : Hea) : Res Val := P4 h[i]? i y h
def P2 (o : Option Ob) (g : En → Hea → Res Val) (e : En) (i : Nat) (h : Hea) : Res Val := match o with | some (.lst _) => (g e h).bind (P3 i) | _ => .stuck
def P1 (g : En → Hea → Res Val) (e : En) (o : Val) (h : Hea) : Res Val := match o with | .ref i => P2 h[i]? g e i h | _ => .stuck
theorem v104 : eApp f g e h = (f e h).bind (P1 g e) := rfl
theorem v105 : P1 g e (.ref i) h = P2 h[i]? g e i h := rfl
theorem v106 : P2 (some (.lst xs)) g e i h = (g e h).bind (P3 i) := rfl
theorem v107 : P3 i y h = P4 h[i]? i y h := rfl
theorem v108 : P4 (some (.lst xs)) i y h = if xs.length < 16777216 then .ok .non (h.set i (.lst (xs ++ [y]))) else .stuck := rfl
def G2 (g : Hea → Val → Val → Option Val) (x y : Val) (h : Hea) : Res Val := opt (g h x y) h
def G1 (ty : Hea → Val → Bool) (g : Hea → Val → Val → Option Val) (f2 : En → Hea → Res Val) (e : En) (x : Val) (h : Hea) : Res Val := if ty h x = true then (f2 e h).bind (G2 g x) else .stuck
theorem v109 {ty : Hea → Val → Bool} : eM1 ty o f1 f2 e h = (f1 e h).bind (G1 ty o f2 e) := rfl
theorem v110 {ty : Hea → Val → Bool} : G1 ty o f2 e x h = if ty h x = true then (f2 e h).bind (G2 o x) else .stuck := rfl
theorem v111 : G2 o x y h = opt (o h x y) h := rfl
def Ic (ys : List Str) (y : Val) (h : Hea) : Res Val := match y with | .str z => opt ((idxS ys z).map fun j => .int (j : Nat)) h | _ => .stuck
theorem v112 {qs : List Str} : eIdxC qs g e h = (g e h).bind (Ic qs) := rfl
theorem v113 {qs : List Str} : Ic qs (.str q) h = opt ((idxS qs q).map fun j => .int (j : Nat)) h := rfl
def Eo (i : Val) (h : Hea) : Res (Option Int) := match i with | .int i => .ok (some i) h | _ => .stuck
theorem v114 : eOpt none e h = .ok none h := rfl
theorem v115 : eOpt (some g) e h = (g e h).bind Eo := rfl
theorem v116 : Eo (.int z) h = .ok (some z) h := rfl
def Ct3 (d : Val) (lo hi : Option Int) (h : Hea) : Res Val := match d with | .tup xs => .ok (.tup (cutL xs lo hi)) h | d => match lstOf h d with | some xs => .ok (.lst (cutL xs lo hi)) h | none => .stuck
def Ct2 (hi : Option (En → Hea → Res Val)) (e : En) (d : Val) (lo : Option Int) (h : Hea) : Res Val := (eOpt hi e h).bind (Ct3 d lo)
def Ct1 (lo hi : Option (En → Hea → Res Val)) (e : En) (d : Val) (h : Hea) : Res Val := (eOpt lo e h).bind (Ct2 hi e d)
theorem v117 {lo hi : Option (En → Hea → Res Val)} : eCutA f lo hi e h = (f e h).bind (Ct1 lo hi e) := by
  first | rfl | (unfold eCutA; congr 1)
theorem v118 {lo hi : Option (En → Hea → Res Val)} : Ct1 lo hi e d h = (eOpt lo e h).bind (Ct2 hi e d) := rfl
theorem v119 {hi : Option (En → Hea → Res Val)} {lo : Option Int} : Ct2 hi e d lo h = (eOpt hi e h).bind (Ct3 d lo) := rfl
theorem v120 {lo hi : Option Int} : Ct3 (.tup xs) lo hi h = .ok (.tup (cutL xs lo hi)) h := rfl
theorem v121 {lo hi : Option Int} : Ct3 (.lst xs) lo hi h = .ok (.lst (cutL xs lo hi)) h := rfl
def Cl3 (d : Val) (lo hi : Option Int) (h : Hea) : Res (List Val) := match lstOf h d with | some xs => .ok (cutL xs lo hi) h | none => .stuck
def Cl2 (hi : Option (En → Hea → Res Val)) (e : En) (d : Val) (lo : Option Int) (h : Hea) : Res (List Val) := (eOpt hi e h).bind (Cl3 d lo)
def Cl1 (lo hi : Option (En → Hea → Res Val)) (e : En) (d : Val) (h : Hea) : Res (List Val) := (eOpt lo e h).bind (Cl2 hi e d)
def Cl4 (o : Option (List Val)) (lo hi : Option Int) (h : Hea) : Res (List Val) := match o with | some xs => .ok (cutL xs lo hi) h | none => .stuck
theorem v122 {lo hi : Option (En → Hea → Res Val)} : lCut f lo hi e h = (f e h).bind (Cl1 lo hi e) := rfl
theorem v123 {lo hi : Option (En → Hea → Res Val)} : Cl1 lo hi e d h = (eOpt lo e h).bind (Cl2 hi e d) := rfl
theorem v124 {hi : Option (En → Hea → Res Val)} {lo : Option Int} : Cl2 hi e d lo h = (eOpt hi e h).bind (Cl3 d lo) := rfl
theorem v125 {lo hi : Option Int} : Cl3 d lo hi h = Cl4 (lstOf h d) lo hi h := rfl
theorem v126 {lo hi : Option Int} : Cl4 (some xs) lo hi h = .ok (cutL xs lo hi) h := rfl
def Lo2 (o : Option (List Val)) (h : Hea) : Res (List Val) := match o with | some xs => .ok xs h | none => .stuck
def Lo1 (d : Val) (h : Hea) : Res (List Val) := Lo2 (itemsOf h d) h
theorem v127 : lOf f e h = (f e h).bind Lo1 := rfl
theorem v128 : Lo1 d h = Lo2 (itemsOf h d) h := rfl
theorem v129 : Lo2 (some xs) h = .ok xs h := rfl
def Rg1 (d : Val) (h : Hea) : Res (List Val) := match d with | .int n => if rgOkB 0 n = true then .ok (rgL 0 n) h else .stuck | _ => .stuck
theorem v130 : lRg1 f e h = (f e h).bind Rg1 := rfl
theorem v131 : Rg1 (.int z) h = if rgOkB 0 z = true then .ok (rgL 0 z) h else .stuck := rfl
def La3 (o1 o2 : Option (List Val)) (h : Hea) : Res (List Val) := match o1, o2 with | some xs, some ys => if xs.length + ys.length ≤ 16777216 then .ok (xs ++ ys) h else .stuck | _, _ => .stuck
def La2 (x y : Val) (h : Hea) : Res (List Val) := La3 (lstP h x) (lstP h y) h
def La1 (f2 : En → Hea → Res Val) (e : En) (x : Val) (h : Hea) : Res (List Val) := (f2 e h).bind (La2 x)
theorem v132 : lAdd f1 f2 e h = (f1 e h).bind (La1 f2 e) := rfl
theorem v133 : La1 f2 e x h = (f2 e h).bind (La2 x) := rfl
theorem v134 : La2 x y h = La3 (lstP h x) (lstP h y) h := rfl
theorem v135 : La3 (some xs) (some ys) h = if xs.length + ys.length ≤ 16777216 then .ok (xs ++ ys) h else .stuck := rfl
def Dp3 (o : Option Hea) : Res Val := match o with | some h => .ok .non h | none => .stuck
def Dp2 (v o i : Val) (h : Hea) : Res Val := match setD h o i v with | some h4 => .ok .non h4 | none => .stuck
def Dp1 (f3 : En → Hea → Res Val) (e : En) (v o : Val) (h : Hea) : Res Val := (f3 e h).bind (Dp2 v o)
def Dp0 (f2 f3 : En → Hea → Res Val) (e : En) (v : Val) (h : Hea) : Res Val := (f2 e h).bind (Dp1 f3 e v)
theorem v136 : Lad.sDPut f1 f2 f3 e h = ofR ((f1 e h).bind (Dp0 f2 f3 e)) e (kN e) := rfl
theorem v137 : Dp0 f2 f3 e v h = (f2 e h).bind (Dp1 f3 e v) := rfl
theorem v138 : Dp1 f3 e v x h = (f3 e h).bind (Dp2 v x) := rfl
theorem v139 : Dp2 v x y h = Dp3 (setD h x y v) := by
  unfold Dp2 Dp3
  cases setD h x y v <;> rfl
theorem v140 : Dp3 (some h) = .ok .non h := rfl
def Pt2 (r : List FF) (vs : List Val) (e : En) (o : Option Hea) : Res Val := match o with | some h3 => putAll r vs e h3 | none => .stuck
def Pt1 (r : List FF) (v : Val) (vs : List Val) (e : En) (o i : Val) (h : Hea) : Res Val := Pt2 r vs e (setAny h o i v)
def Pt0 (p : FF) (r : List FF) (v : Val) (vs : List Val) (e : En) (o : Val) (h : Hea) : Res Val := (p.2 e h).bind (Pt1 r v vs e o)
theorem v141 : putAll [] [] e h = .ok .non h := rfl
theorem v142 {p : FF} {r : List FF} : putAll (p :: r) (v :: vs) e h = (p.1 e h).bind (Pt0 p r v vs e) := by
  unfold putAll
  congr 1
theorem v143 {p : FF} {r : List FF} : Pt0 p r v vs e x h = (p.2 e h).bind (Pt1 r v vs e x) := rfl
theorem v144 {r : List FF} : Pt1 r v vs e x y h = Pt2 r vs e (setAny h x y v) := rfl
theorem v145 {r : List FF} : Pt2 r vs e (some h) = putAll r vs e h := rfl
def Pu (fs : List FF) (e : En) (d : Val) (h : Hea) : Res Val := match d with | .tup ds => if ds.length = fs.length then putAll fs ds e h else .stuck | _ => .stuck
theorem v146 {fs : List FF} : sPutT fs f e h = ofR ((f e h).bind (Pu fs e)) e (kN e) := by
  first | rfl | (unfold sPutT; congr 1)
theorem v147 {fs : List FF} : Pu fs e (.tup ds) h = if ds.length = fs.length then putAll fs ds e h else .stuck := rfl
def Dq2 (x y : Val) (l : List (Val × Val)) (h : Hea) : Res (List (Val × Val)) := .ok ((x, y) :: l) h
def Dq1 (r : List FF) (e : En) (x y : Val) (h : Hea) : Res (List (Val × Val)) := (dPrs r e h).bind (Dq2 x y)
def Dq0 (f2 : En → Hea → Res Val) (r : List FF) (e : En) (x : Val) (h : Hea) : Res (List (Val × Val)) := (noX (f2 e h)).bind (Dq1 r e x)
theorem v148 : dPrs [] e h = .ok [] h := rfl
theorem v149 {r : List FF} : dPrs ((f1, f2) :: r) e h = (noX (f1 e h)).bind (Dq0 f2 r e) := rfl
theorem v150 {r : List FF} : Dq0 f2 r e x h = (noX (f2 e h)).bind (Dq1 r e x) := rfl
theorem v151 {r : List FF} : Dq1 r e x y h = (dPrs r e h).bind (Dq2 x y) := rfl
theorem v152 {r : List (Val × Val)} : Dq2 x y r h = .ok ((x, y) :: r) h := rfl
def Ds1 (l : List (Val × Val)) (h : Hea) : Res Val := if dispOk l = true then .ok (.dic false ((mergeKv [] l).map (·.1)) ((mergeKv [] l).map (·.2))) h else .stuck
def Ds2 (l : List (Val × Val)) (h : Hea) : Res Val := if dispOk l = true then .ok (.ref h.length) (h ++ [.dcK (mergeKv [] l)]) else .stuck
theorem v153 {fs : List FF} : eDisp fs e h = (dPrs fs e h).bind Ds1 := rfl
theorem v154 {fs : List FF} : eDispK fs e h = (dPrs fs e h).bind Ds2 := rfl
theorem v155 : Ds1 kvs h = if dispOk kvs = true then .ok (.dic false ((mergeKv [] kvs).map (·.1)) ((mergeKv [] kvs).map (·.2))) h else .stuck := rfl
theorem v156 : Ds2 kvs h = if dispOk kvs = true then .ok (.ref h.length) (h ++ [.dcK (mergeKv [] kvs)]) else .stuck := rfl
def Sx2 (v o i : Val) (h : Hea) : Res Val := Dp3 (setIx h o i v)
def Sx1 (f3 : En → Hea → Res Val) (e : En) (v o : Val) (h : Hea) : Res Val := (f3 e h).bind (Sx2 v o)
def Sx0 (f2 f3 : En → Hea → Res Val) (e : En) (v : Val) (h : Hea) : Res Val := (f2 e h).bind (Sx1 f3 e v)
theorem v157 : sSetIx f1 f2 f3 e h = ofR ((f1 e h).bind (Sx0 f2 f3 e)) e (kN e) := by
  unfold sSetIx
  congr 2
theorem v158 : Sx0 f2 f3 e v h = (f2 e h).bind (Sx1 f3 e v) := rfl
theorem v159 : Sx1 f3 e v x h = (f3 e h).bind (Sx2 v x) := rfl
theorem v160 : Sx2 v x y h = Dp3 (setIx h x y v) := rfl
def Sr (d : Val) (h1 : Hea) : Res Src := match d with | .ref i => if (lstAt h1 i).isSome = true then .ok (srcLive i) h1 else .stuck | .tup xs => .ok (srcFix xs) h1 | .lst xs => .ok (srcFix xs) h1 | _ => .stuck
theorem v161 : iSeq f e h = (f e h).bind Sr := rfl
theorem v162 : Sr (.tup xs) h = .ok (srcFix xs) h := rfl
theorem v163 : Sr (.lst xs) h = .ok (srcFix xs) h := rfl
def St1 (xs : List Val) (h : Hea) : Res Src := .ok (srcFix xs) h
theorem v164 : iTmp l e h = (l e h).bind St1 := rfl
theorem v165 : St1 xs h = .ok (srcFix xs) h := rfl
def Zw (ds : List Val) (h : Hea) : Res Src := if (isTL ds || isLT ds) = true then .ok (srcFix (zipTwo ds)) h else zipK ds h
theorem v166 : iZipW l e h = (l e h).bind Zw := rfl
theorem v167 : Zw [.tup xs, .tup ys] h = .ok (srcFix (zipV xs ys)) h := rfl
theorem v168 : Zw [.lst xs, .lst ys] h = .ok (srcFix (zipV xs ys)) h := rfl
theorem v169 : Zw [.tup xs, .lst ys] h = .ok (srcFix (zipV xs ys)) h := rfl
theorem v170 : Zw [.lst xs, .tup ys] h = .ok (srcFix (zipV xs ys)) h := rfl
theorem v171 : zipV (x :: xs) (y :: ys) = .tup [x, y] :: zipV xs ys := rfl
theorem v172 : zipV [] ys = [] := rfl
theorem v173 : zipV (x :: xs) [] = [] := rfl
def En1 (d : Val) (h1 : Hea) : Res Src := match d with | .ref i => if (lstAt h1 i).isSome = true then .ok (srcEnum i) h1 else .stuck | .tup xs => .ok (srcEnumF xs) h1 | .lst xs => .ok (srcEnumF xs) h1 | _ => .stuck
theorem v174 : iEnumS f e h = (f e h).bind En1 := rfl
theorem v175 : En1 (.tup xs) h = .ok (srcFix (enumFrom 0 xs)) h := rfl
theorem v176 : En1 (.lst xs) h = .ok (srcFix (enumFrom 0 xs)) h := rfl
def Rr1 (ds : List Val) (h1 : Hea) : Res Src := match ds with | [.int j] => if rngOk j = true then .ok (srcFix (rangeV 0 j.toNat)) h1 else .stuck | _ => .stuck
def Rr2 (ds : List Val) (h1 : Hea) : Res Src := match ds with | [.int i, .int j] => if (rngOk i && rngOk j) = true then .ok (srcFix (rangeV i (j - i).toNat)) h1 else .stuck | _ => .stuck
theorem v177 : iRng1V l e h = (l e h).bind Rr1 := rfl
theorem v178 : Rr1 [.int z] h = if rngOk z = true then .ok (srcFix (rangeV 0 z.toNat)) h else .stuck := rfl
theorem v179 : iRng2V l e h = (l e h).bind Rr2 := rfl
theorem v180 : Rr2 [.int z, .int w] h = if (rngOk z && rngOk w) = true then .ok (srcFix (rangeV z (w - z).toNat)) h else .stuck := rfl
def sThen (r : SRes) (s2 : En → Hea → SRes) : SRes := match r with | .nx e1 h1 => s2 e1 h1 | r => r
theorem v181 : sNil e h = .nx e h := rfl
theorem v182 : sSeq s1 s2 e h = sThen (s1 e h) s2 := rfl
theorem v183 : sThen (.nx e h) s2 = s2 e h := rfl
theorem v184 : sThen (.rt d h) s2 = .rt d h := rfl
theorem v185 : sThen (.exc c d e h) s2 = .exc c d e h := rfl
theorem v186 : sThen (.bk e h) s2 = .bk e h := rfl
theorem v187 : sThen (.ct e h) s2 = .ct e h := rfl
def kS (i : Nat) (e : En) (d : Val) (h : Hea) : SRes := .nx (e.set i (some d)) h
def kR (d : Val) (h : Hea) : SRes := .rt d h
def kI (s1 s2 : En → Hea → SRes) (e : En) (d : Val) (h : Hea) : SRes := match d with | .bl true => s1 e h | .bl false => s2 e h | _ => .stuck
def kX (c : Nat) (e : En) (d : Val) (h : Hea) : SRes := .exc c d e h
def aO (o : Option En) (h : Hea) : SRes := match o with | some e1 => .nx e1 h | none => .stuck
def kA (b : Val → En → Option En) (e : En) (d : Val) (h : Hea) : SRes := aO (b d e) h
def kP (is : List Nat) (e : En) (ds : List Val) (h : Hea) : SRes := aO (setAll is ds e) h
theorem v188 : sSet i f e h = ofR (f e h) e (kS i e) := rfl
theorem v189 : kS i e d h = .nx (e.set i (some d)) h := rfl
theorem v190 : sRet f e h = ofR (f e h) e kR := rfl
theorem v191 : kR d h = .rt d h := rfl
theorem v192 : sRetN e h = .rt .non h := rfl
theorem v193 : sEx f e h = ofR (f e h) e (kN e) := rfl
theorem v194 : sIf f s1 s2 e h = ofR (f e h) e (kI s1 s2 e) := rfl
theorem v195 : kI s1 s2 e (.bl true) h = s1 e h := rfl
theorem v196 : kI s1 s2 e (.bl false) h = s2 e h := rfl
theorem v197 : sRaise c f e h = ofR (f e h) e (kX c e) := rfl
theorem v198 : kX c e d h = .exc c d e h := rfl
theorem v199 : sAsg b f e h = ofR (f e h) e (kA b e) := rfl
theorem v200 : kA b e d h = aO (b d e) h := rfl
theorem v201 : aO (some e) h = .nx e h := rfl
theorem v202 : sPar is l e h = ofR (l e h) e (kP is e) := rfl
theorem v203 : kP is e ds h = aO (setAll is ds e) h := rfl
theorem v204 : gT is (.tup xs) e = setAll is xs e := rfl
theorem v205 : gL is (.lst xs) e = setAll is xs e := rfl
theorem v206 : gN i v e = some (e.set i (some v)) := rfl
theorem v207 : setAll [] [] e = some e := rfl
theorem v208 : setAll (i :: is) (v :: vs) e = setAll is vs (e.set i (some v)) := rfl
def augK (i : Nat) (q : Int → Int → Int) (z : Int) (e : En) (d : Val) (h : Hea) : SRes := match d with | .int y => .nx (e.set i (some (.int (q z y)))) h | _ => .stuck
def augR (o : Option (Option Val)) (i : Nat) (q : Int → Int → Int) (f : En → Hea → Res Val) (e : En) (h : Hea) : SRes := match o with | some (some (.int x)) => ofR (f e h) e (augK i q x e) | _ => .stuck
theorem v209 {q : Int → Int → Int} : sAug i q f e h = augR e[i]? i q f e h := by
  unfold sAug augR
  generalize e[i]? = o
  cases o with
  | none => rfl
  | some o => cases o with
    | none => rfl
    | some d => cases d <;> rfl
theorem v210 {q : Int → Int → Int} : augR (some (some (.int z))) i q f e h = ofR (f e h) e (augK i q z e) := rfl
theorem v211 {q : Int → Int → Int} : augK i q z e (.int w) h = .nx (e.set i (some (.int (q z w)))) h := rfl
def fEnd (r : SRes) (b : Val → En → Option En) (s : En → Hea → SRes) (vs : List Val) : SRes := match r with | .nx e2 h2 => forL b s vs e2 h2 | .ct e2 h2 => forL b s vs e2 h2 | .bk e2 h2 => .nx e2 h2 | r => r
def fT (o : Option En) (b : Val → En → Option En) (s : En → Hea → SRes) (vs : List Val) (h : Hea) : SRes := match o with | some e1 => fEnd (s e1 h) b s vs | none => .stuck
def fK (b : Val → En → Option En) (s : En → Hea → SRes) (e : En) (q : Src) (h : Hea) : SRes := runFor q b s e h
theorem v212 : sFor src b s e h = ofR (src e h) e (fK b s e) := rfl
theorem v213 : fK b s e (srcFix xs) h = forL b s xs e h := rfl
theorem v214 : forL b s [] e h = .nx e h := rfl
theorem v215 : forL b s (v :: vs) e h = fT (b v e) b s vs h := rfl
theorem v216 : fT (some e) b s vs h = fEnd (s e h) b s vs := rfl
theorem v217 : fEnd (.nx e h) b s vs = forL b s vs e h := rfl
theorem v218 : fEnd (.ct e h) b s vs = forL b s vs e h := rfl
theorem v219 : fEnd (.bk e h) b s vs = .nx e h := rfl
theorem v220 : fEnd (.rt d h) b s vs = .rt d h := rfl
theorem v221 : fEnd (.exc c d e h) b s vs = .exc c d e h := rfl
def cE (y : Val) (ys : List Val) (h : Hea) : Res (List Val) := .ok (y :: ys) h
def cD (b : Val → En → Option En) (f g : En → Hea → Res Val) (e : En) (vs : List Val) (y : Val) (h : Hea) : Res (List Val) := (compL b f g e vs h).bind (cE y)
def cC (b : Val → En → Option En) (f g : En → Hea → Res Val) (e e1 : En) (vs : List Val) (c : Val) (h : Hea) : Res (List Val) := match c with | .bl true => (noX (g e1 h)).bind (cD b f g e vs) | .bl false => compL b f g e vs h | _ => .stuck
def cT (o : Option En) (b : Val → En → Option En) (f g : En → Hea → Res Val) (e : En) (vs : List Val) (h : Hea) : Res (List Val) := match o with | some e1 => (noX (f e1 h)).bind (cC b f g e e1 vs) | none => .stuck
def cK (b : Val → En → Option En) (f g : En → Hea → Res Val) (e : En) (q : Src) (h : Hea) : Res (List Val) := runComp q b f g e h
theorem v222 : lComp own src b f g e h = (src e h).bind (cK b f g (wipeE e own)) := rfl
def cN (b : Val → En → Option En) (f g : En → Hea → Res Val) (e : En) (q : Src) (h : Hea) : Res (List Val) := runComp q b f g e h
theorem v223 : cK b f g e (srcFix xs) h = if xs.length ≤ 16777216 then compL b f g e xs h else cN b f g e (srcFix xs) h := by
  split
  · rename_i p
    exact if_pos p
  · rfl
theorem v224 : compL b f g e [] h = .ok [] h := rfl
theorem v225 : compL b f g e (v :: vs) h = cT (b v e) b f g e vs h := by
  unfold compL cT
  cases b v e with
  | none => rfl
  | some e1 =>
    show (noX (f e1 h)).bind _ = (noX (f e1 h)).bind _
    congr 1
theorem v226 : cT (some e1) b f g e vs h = (noX (f e1 h)).bind (cC b f g e e1 vs) := rfl
theorem v227 : cC b f g e e1 vs (.bl true) h = (noX (g e1 h)).bind (cD b f g e vs) := rfl
theorem v228 : cC b f g e e1 vs (.bl false) h = compL b f g e vs h := rfl
theorem v229 : cD b f g e vs y h = (compL b f g e vs h).bind (cE y) := rfl
theorem v230 : cE y ys h = .ok (y :: ys) h := rfl
theorem v231 : eYes e h = .ok (.bl true) h := rfl
theorem v232 : wipeE e [] = e := rfl
theorem v233 : wipeE e (i :: is) = (wipeE e is).set i none := rfl
def runR (fn : Hea → Val → Hea → Res Val) (h : Hea) (r : SRes) : Res Val := match r with
      | .rt d h' => fn h d h'
      | .nx _ h' => fn h .non h'
      | .exc c d _ h' => if h'.length = h.length then .exc c d h' else (match shut h.length h.length h' with
        | some g => (match frz 40 h.length h' d with
          | some d' => .exc c d' g
          | none => .exc c d h')
        | none => .exc c d h')
      | _ => .stuck
theorem v234 {fn : Hea → Val → Hea → Res Val} (p : ds.length = n) : runG fn n m s ds h = runR fn h (s (startE m ds) h) := if_pos p
theorem v235 {fn : Hea → Val → Hea → Res Val} : runR fn h (.rt d h1) = fn h d h1 := rfl
theorem v236 {fn : Hea → Val → Hea → Res Val} : runR fn h (.nx e h1) = fn h .non h1 := rfl
theorem v237 {fn : Hea → Val → Hea → Res Val} (p : h1.length = h.length) : runR fn h (.exc c d e h1) = .exc c d h1 := if_pos p
theorem v238 : fin h d h = .ok d h := fin_same h d
theorem v239 (p : h1.length = h.length) : fin h d h1 = .ok d h1 := fin_len p
theorem v240 : startE m ds = ds.map some ++ List.replicate (m - ds.length) none := rfl
def lsP (o : Option Ob) : Option (List Val) := match o with | some (.lst xs) => some xs | some (.fro ns) => some (ns.map Val.int) | _ => none
theorem v241 : lstAt h i = lsP h[i]? := by
  unfold lstAt lsP
  split <;> simp_all
theorem v242 : lsP (some (.lst xs)) = some xs := rfl
theorem v243 {ns : List Int} : lsP (some (.fro ns)) = some (ns.map Val.int) := rfl
theorem v244 : lstOf h (.lst xs) = some xs := rfl
theorem v245 : lstOf h (.ref i) = lstAt h i := rfl
theorem v246 : lstP h (.lst xs) = some xs := rfl
theorem v247 : itemsOf h (.tup xs) = some xs := rfl
theorem v248 : itemsOf h (.lst xs) = some xs := rfl
theorem v249 : itemsOf h (.ref i) = lstAt h i := rfl
def inP (o : Option Ob) : Option (Nat × List (Nat × Val)) := match o with | some (.ins c fs) => some (c, fs) | _ => none
theorem v250 : insOf h (.obj c is vs) = some (c, is.zip vs) := rfl
theorem v251 : insOf h (.ref i) = inP h[i]? := by
  show (match h[i]? with | some (.ins c fs) => some (c, fs) | _ => none) = _
  unfold inP
  rfl
theorem v252 : inP (some (.ins c fs)) = some (c, fs) := rfl
theorem v253 {r : List (Nat × Val)} : lkF ((n, d) :: r) n = some d := if_pos rfl
theorem v254 {r : List (Nat × Val)} (p : m ≠ n) (q : m < 100) : lkF ((m, d) :: r) n = lkF r n := (if_neg p).trans (if_pos q)
theorem v255 : noF [] n = true := rfl
theorem v256 {r : List (Nat × Val)} (p : m ≠ n) (q : m < 100) : noF ((m, d) :: r) n = noF r n := (if_neg p).trans (if_pos q)
theorem v257 : putN n d [] = some [(n, d)] := rfl
theorem v258 {r : List (Nat × Val)} (p : m ≠ n) (q : m < 100) : putN n d ((m, x) :: r) = (putN n d r).map ((m, x) :: ·) := (if_neg p).trans (if_pos q)
def ixP (o : Option (List Val)) (z : Int) : Option Val := match o with | some xs => atI xs z | none => none
theorem v259 : oIx h (.tup xs) (.int z) = atI xs z := rfl
theorem v260 : oIx h (.lst xs) (.int z) = atI xs z := rfl
theorem v261 : oIx h (.ref i) (.int z) = ixP (lstAt h i) z := by
  show (match lstAt h i with | some xs => atI xs z | none => none) = _
  unfold ixP
  rfl
theorem v262 : ixP (some xs) z = atI xs z := rfl
theorem v263 : atI (x :: xs) 0 = some x := by
  unfold L2.atI L2.ixN
  rw [if_pos (by decide), if_pos (by simp)]
  rfl
theorem v264 : atI (x :: y :: xs) 1 = some y := by
  unfold L2.atI L2.ixN
  rw [if_pos (by decide), if_pos (by simp; omega)]
  rfl
theorem v265 : atI (x :: y :: d :: xs) 2 = some d := by
  unfold L2.atI L2.ixN
  rw [if_pos (by decide), if_pos (by simp; omega)]
  rfl
theorem v266 : atI (x :: y :: d :: v :: xs) 3 = some v := by
  unfold L2.atI L2.ixN
  rw [if_pos (by decide), if_pos (by simp; omega)]
  rfl
theorem v267 : atI [x] (-1) = some x := rfl
theorem v268 : atI [x, y] (-1) = some y := rfl
theorem v269 : atI [x, y, d] (-1) = some d := rfl
theorem v270 : oAdd h (.int z) (.int w) = some (.int (z + w)) := rfl
theorem v271 : oSub h (.int z) (.int w) = some (.int (z - w)) := rfl
theorem v272 : oMul h (.int z) (.int w) = if mulOk z w = true then some (.int (z * w)) else none := rfl
theorem v273 : oDiv h (.int z) (.int w) = if w ≠ 0 ∧ w.natAbs.log2 < 9000 then some (.int (z.fdiv w)) else none := rfl
theorem v274 (p : w ≠ 0) : oMod h (.int z) (.int w) = some (.int (z.fmod w)) := if_pos p
theorem v275 : oNeg h (.int z) = some (.int (-z)) := rfl
theorem v276 : oLt h (.int z) (.int w) = some (.bl (decide (z < w))) := rfl
theorem v277 : oLe h (.int z) (.int w) = some (.bl (decide (z ≤ w))) := rfl
theorem v278 : oGt h (.int z) (.int w) = some (.bl (decide (w < z))) := rfl
theorem v279 : oGe h (.int z) (.int w) = some (.bl (decide (w ≤ z))) := rfl
theorem v280 : oNot h (.bl t) = some (.bl (!t)) := rfl
theorem v281 {u : Bool} : oIs h (.bl t) (.bl u) = some (.bl (decide (t = u))) := rfl
theorem v282 {u : Bool} : oIsNot h (.bl t) (.bl u) = some (.bl (!decide (t = u))) := rfl
theorem v283 : oIs h .non .non = some (.bl true) := rfl
theorem v284 : oIs h (.tup xs) .non = some (.bl false) := rfl
theorem v285 : oIs h (.int z) .non = some (.bl false) := rfl
theorem v286 : oIs h (.lst xs) .non = some (.bl false) := rfl
theorem v287 : oIs h (.str q) .non = some (.bl false) := rfl
theorem v288 : oIsNot h .non .non = some (.bl false) := rfl
theorem v289 : oIsNot h (.tup xs) .non = some (.bl true) := rfl
theorem v290 : oIsNot h (.int z) .non = some (.bl true) := rfl
theorem v291 : oIsNot h (.lst xs) .non = some (.bl true) := rfl
theorem v292 : gAbs h [.int z] = some (.int (z.natAbs : Int)) := g_abs' h z
theorem v293 : gInt h [.int z] = some (.int z) := rfl
theorem v294 : gInt h [.bl t] = some (.int (if t then 1 else 0)) := rfl
theorem v295 : gLen xs = some (.int xs.length) := rfl
theorem v296 : gTuple xs = some (.tup xs) := rfl
theorem v297 : gMax2 h [.int z, .int w] = some (.int (if w > z then w else z)) := rfl
theorem v298 : gMin2 h [.int z, .int w] = some (.int (if w < z then w else z)) := rfl
theorem v299 : eqB h (.int z) (.int w) = some (decide (z = w)) := eq_int h z w
theorem v300 {u : Bool} : eqB h (.bl t) (.bl u) = some (decide (t = u)) := eq_bl h t u
theorem v301 {z1 w1 : Int} : eqB h (.tup [.int z, .int w]) (.tup [.int z1, .int w1]) = some (decide (z = z1 ∧ w = w1)) := eq_tup2 h z w z1 w1
theorem v302 : oEq h d1 d2 = (eqB h d1 d2).map .bl := rfl
theorem v303 : oNe h d1 d2 = (eqB h d1 d2).map fun c => .bl (!c) := rfl
theorem v304 : oIsi [.int] h (.tup xs) = some (.bl false) := rfl
theorem v305 : oIsi [.int] h (.lst xs) = some (.bl false) := rfl
theorem v306 : oIsi [.int] h (.int z) = some (.bl true) := rfl
theorem v307 : oIsi [.int] h (.bl t) = some (.bl true) := rfl
theorem v308 : oIsi [.int] h (.str q) = some (.bl false) := rfl
theorem v309 : oIsi [.int] h (.non) = some (.bl false) := rfl
theorem v310 : oIsi [.int] h (.dic t ks vs) = some (.bl false) := rfl
theorem v311 : oIsi [.bool] h (.tup xs) = some (.bl false) := rfl
theorem v312 : oIsi [.bool] h (.lst xs) = some (.bl false) := rfl
theorem v313 : oIsi [.bool] h (.int z) = some (.bl false) := rfl
theorem v314 : oIsi [.bool] h (.bl t) = some (.bl true) := rfl
theorem v315 : oIsi [.bool] h (.str q) = some (.bl false) := rfl
theorem v316 : oIsi [.bool] h (.non) = some (.bl false) := rfl
theorem v317 : oIsi [.bool] h (.dic t ks vs) = some (.bl false) := rfl
theorem v318 : oIsi [.str] h (.tup xs) = some (.bl false) := rfl
theorem v319 : oIsi [.str] h (.lst xs) = some (.bl false) := rfl
theorem v320 : oIsi [.str] h (.int z) = some (.bl false) := rfl
theorem v321 : oIsi [.str] h (.bl t) = some (.bl false) := rfl
theorem v322 : oIsi [.str] h (.str q) = some (.bl true) := rfl
theorem v323 : oIsi [.str] h (.non) = some (.bl false) := rfl
theorem v324 : oIsi [.str] h (.dic t ks vs) = some (.bl false) := rfl
theorem v325 : oIsi [.tuple] h (.tup xs) = some (.bl true) := rfl
theorem v326 : oIsi [.tuple] h (.lst xs) = some (.bl false) := rfl
theorem v327 : oIsi [.tuple] h (.int z) = some (.bl false) := rfl
theorem v328 : oIsi [.tuple] h (.bl t) = some (.bl false) := rfl
theorem v329 : oIsi [.tuple] h (.str q) = some (.bl false) := rfl
theorem v330 : oIsi [.tuple] h (.non) = some (.bl false) := rfl
theorem v331 : oIsi [.tuple] h (.dic t ks vs) = some (.bl false) := rfl
theorem v332 : oIsi [.list] h (.tup xs) = some (.bl false) := rfl
theorem v333 : oIsi [.list] h (.lst xs) = some (.bl true) := rfl
theorem v334 : oIsi [.list] h (.int z) = some (.bl false) := rfl
theorem v335 : oIsi [.list] h (.bl t) = some (.bl false) := rfl
theorem v336 : oIsi [.list] h (.str q) = some (.bl false) := rfl
theorem v337 : oIsi [.list] h (.non) = some (.bl false) := rfl
theorem v338 : oIsi [.list] h (.dic t ks vs) = some (.bl false) := rfl
theorem v339 : oIsi [.dict] h (.tup xs) = some (.bl false) := rfl
theorem v340 : oIsi [.dict] h (.lst xs) = some (.bl false) := rfl
theorem v341 : oIsi [.dict] h (.int z) = some (.bl false) := rfl
theorem v342 : oIsi [.dict] h (.bl t) = some (.bl false) := rfl
theorem v343 : oIsi [.dict] h (.str q) = some (.bl false) := rfl
theorem v344 : oIsi [.dict] h (.non) = some (.bl false) := rfl
theorem v345 : oIsi [.dict] h (.dic t ks vs) = some (.bl true) := rfl
theorem v346 : oIsi [.list, .tuple] h (.tup xs) = some (.bl true) := rfl
theorem v347 : oIsi [.list, .tuple] h (.lst xs) = some (.bl true) := rfl
theorem v348 : oIsi [.list, .tuple] h (.int z) = some (.bl false) := rfl
theorem v349 : oIsi [.list, .tuple] h (.bl t) = some (.bl false) := rfl
theorem v350 : oIsi [.list, .tuple] h (.str q) = some (.bl false) := rfl
theorem v351 : oIsi [.list, .tuple] h (.non) = some (.bl false) := rfl
theorem v352 : oIsi [.list, .tuple] h (.dic t ks vs) = some (.bl false) := rfl
theorem v353 {p : Prop} [Decidable p] (k : p) : decide p = true := decide_eq_true k
theorem v354 {p : Prop} [Decidable p] (k : ¬ p) : decide p = false := decide_eq_false k
theorem v355 : (if t = true then !false else false) = t := by cases t <;> rfl
def tK (r : SRes) (cl : List ((Nat → Option Bool) × (En → Hea → SRes))) (i : Nat) : SRes := match r with | .exc c d e1 h1 => sTryM.tryMs cl i c d e1 h1 | r => r
def tQ (o : Option Bool) (s : En → Hea → SRes) (r : List ((Nat → Option Bool) × (En → Hea → SRes))) (i c : Nat) (d : Val) (e1 : En) (h1 : Hea) : SRes := match o with | some true => suiteEnd i h1 (s (e1.set i (some (.exn c d))) h1) | some false => sTryM.tryMs r i c d e1 h1 | none => .stuck
theorem v356 {cl : List ((Nat → Option Bool) × (En → Hea → SRes))} : sTryM cl i s e h = tK (s e h) cl i := rfl
theorem v357 {cl : List ((Nat → Option Bool) × (En → Hea → SRes))} : tK (.exc c d e h) cl i = sTryM.tryMs cl i c d e h := rfl
theorem v358 {cl : List ((Nat → Option Bool) × (En → Hea → SRes))} : tK (.nx e h) cl i = .nx e h := rfl
theorem v359 {cl : List ((Nat → Option Bool) × (En → Hea → SRes))} : tK (.rt d h) cl i = .rt d h := rfl
theorem v360 {qq : Nat → Option Bool} {cl : List ((Nat → Option Bool) × (En → Hea → SRes))} : sTryM.tryMs ((qq, s) :: cl) i c d e h = tQ (qq c) s cl i c d e h := by
  show (match qq c with | some true => _ | some false => _ | none => _) = _
  unfold tQ
  rfl
theorem v361 {cl : List ((Nat → Option Bool) × (En → Hea → SRes))} : tQ (some true) s cl i c d e h = suiteEnd i h (s (e.set i (some (.exn c d))) h) := rfl
theorem v362 {cl : List ((Nat → Option Bool) × (En → Hea → SRes))} : tQ (some false) s cl i c d e h = sTryM.tryMs cl i c d e h := rfl
theorem v363 : suiteEnd i h1 (.rt v h2) = if (noExH h2 && v.noEx) = true then .rt v h2 else .stuck := rfl
theorem v364 : suiteEnd i h1 (.nx e h2) = if (noExH h2 && noExE (e.set i none)) = true then .nx (e.set i none) h2 else .stuck := rfl
theorem v365 : oExF h (.exn c d) = some d := rfl
theorem v366 : (Val.lst xs).noEx = noExL xs := rfl
theorem v367 : (Val.tup xs).noEx = noExL xs := rfl
theorem v368 : noExL [] = true := rfl
theorem v369 : noExL (x :: xs) = (x.noEx && noExL xs) := rfl
theorem v370 : (Val.int z).noEx = true := rfl
theorem v371 : (Val.str q).noEx = true := rfl
theorem v372 : Val.non.noEx = true := rfl
theorem v373 : (Val.bl t).noEx = true := rfl
theorem v374 {os : Hea} : noExH (Ob.lst xs :: os) = (noExL xs && noExH os) := rfl
theorem v375 {ns : List Int} {os : Hea} : noExH (Ob.fro ns :: os) = noExH os := rfl
theorem v376 : noExH [] = true := rfl
theorem v377 : (true && t) = t := by cases t <;> rfl
def t1 (r : SRes) (sub : Nat → Option Bool) (i : Nat) (s : En → Hea → SRes) : SRes := match r with | .exc c d e1 h1 => tQ (sub c) s [] i c d e1 h1 | r => r
theorem v378 {sub : Nat → Option Bool} : sTry1 sub i s1 s2 e h = t1 (s1 e h) sub i s2 := by
  unfold sTry1 t1 tQ
  cases s1 e h with
  | exc c d e1 h1 =>
    dsimp only
    cases sub c with
    | none => rfl
    | some t => cases t <;> rfl
  | _ => rfl
theorem v379 {sub : Nat → Option Bool} : t1 (.exc c d e h) sub i s = tQ (sub c) s [] i c d e h := rfl
theorem v380 {sub : Nat → Option Bool} : t1 (.nx e h) sub i s = .nx e h := rfl
theorem v381 {sub : Nat → Option Bool} : t1 (.rt d h) sub i s = .rt d h := rfl
theorem v382 : sTryM.tryMs [] i c d e h = .exc c d e h := rfl
theorem v383 : noExE [] = true := rfl
theorem v384 : noExE (none :: e) = noExE e := rfl
theorem v385 : noExE (some v :: e) = (v.noEx && noExE e) := rfl
theorem v386 {is2 : List Nat} : (Val.obj c is2 vs).noEx = noExL vs := rfl
theorem v387 : (Val.ref i).noEx = true := rfl
theorem v388 : (Val.dic t ks vs).noEx = noExL vs := rfl
theorem v389 : oIn h d1 d2 = (inB h d1 d2).map .bl := rfl
theorem v390 : oNotIn h d1 d2 = (inB h d1 d2).map fun c => .bl (!c) := rfl
theorem v391 : oIdxL h (.lst xs) (.str q) = (strs? xs).bind fun ys => (idxS ys q).map fun j => .int (j : Nat) := rfl
theorem v392 : wipeAll e [] = e := rfl
theorem v393 : wipeAll e (i :: is) = wipeAll (e.set i none) is := rfl
def fKK (dead : List Nat) (b : Val → En → Option En) (s : En → Hea → SRes) (e : En) (q : Src) (h : Hea) : SRes := runForK (gcN dead h.length) q b s e h
theorem v394 : sForK dead src b s e h = ofR (src e h) e (fKK dead b s e) := rfl
theorem v395 : fKK dead b s e (srcFix xs) h = forKL (gcN dead h.length) b s xs e h := rfl
end
def EV0 := And.intro @v00 (And.intro @v01 (And.intro @v02 (And.intro @v03 (And.intro @v04 (And.intro @v05 (And.intro @v06 (And.intro @v07 (And.intro @v08 (And.intro @v09 (And.intro @v10 (And.intro @v11 (And.intro @v12 (And.intro @v13 (And.intro @v14 (And.intro @v15 (And.intro @v16 (And.intro @v17 (And.intro @v18 (And.intro @v19 (And.intro @v20 (And.intro @v21 (And.intro @v22 (And.intro @v23 (And.intro @v24 (And.intro @v25 (And.intro @v26 (And.intro @v27 (And.intro @v28 (And.intro @v29 (And.intro @v30 (And.intro @v31 (And.intro @v32 (And.intro @v33 (And.intro @v34 (And.intro @v35 (And.intro @v36 (And.intro @v37 (And.intro @v38 (@v39)))))))))))))))))))))))))))))))))))))))
def EV1 := And.intro @v40 (And.intro @v41 (And.intro @v42 (And.intro @v43 (And.intro @v44 (And.intro @v45 (And.intro @v46 (And.intro @v47 (And.intro @v48 (And.intro @v49 (And.intro @v50 (And.intro @v51 (And.intro @v52 (And.intro @v53 (And.intro @v54 (And.intro @v55 (And.intro @v56 (And.intro @v57 (And.intro @v58 (And.intro @v59 (And.intro @v60 (And.intro @v61 (And.intro @v62 (And.intro @v63 (And.intro @v64 (And.intro @v65 (And.intro @v66 (And.intro @v67 (And.intro @v68 (And.intro @v69 (And.intro @v70 (And.intro @v71 (And.intro @v72 (And.intro @v73 (And.intro @v74 (And.intro @v75 (And.intro @v76 (And.intro @v77 (And.intro @v78 (@v79)))))))))))))))))))))))))))))))))))))))
def EV2 := And.intro @v80 (And.intro @v81 (And.intro @v82 (And.intro @v83 (And.intro @v84 (And.intro @v85 (And.intro @v86 (And.intro @v87 (And.intro @v88 (And.intro @v89 (And.intro @v90 (And.intro @v91 (And.intro @v92 (And.intro @v93 (And.intro @v94 (And.intro @v95 (And.intro @v96 (And.intro @v97 (And.intro @v98 (And.intro @v99 (And.intro @v100 (And.intro @v101 (And.intro @v102 (And.intro @v103 (And.intro @v104 (And.intro @v105 (And.intro @v106 (And.intro @v107 (And.intro @v108 (And.intro @v109 (And.intro @v110 (And.intro @v111 (And.intro @v112 (And.intro @v113 (And.intro @v114 (And.intro @v115 (And.intro @v116 (And.intro @v117 (And.intro @v118 (@v119)))))))))))))))))))))))))))))))))))))))
def EV3 := And.intro @v120 (And.intro @v121 (And.intro @v122 (And.intro @v123 (And.intro @v124 (And.intro @v125 (And.intro @v126 (And.intro @v127 (And.intro @v128 (And.intro @v129 (And.intro @v130 (And.intro @v131 (And.intro @v132 (And.intro @v133 (And.intro @v134 (And.intro @v135 (And.intro @v136 (And.intro @v137 (And.intro @v138 (And.intro @v139 (And.intro @v140 (And.intro @v141 (And.intro @v142 (And.intro @v143 (And.intro @v144 (And.intro @v145 (And.intro @v146 (And.intro @v147 (And.intro @v148 (And.intro @v149 (And.intro @v150 (And.intro @v151 (And.intro @v152 (And.intro @v153 (And.intro @v154 (And.intro @v155 (And.intro @v156 (And.intro @v157 (And.intro @v158 (@v159)))))))))))))))))))))))))))))))))))))))
def EV4 := And.intro @v160 (And.intro @v161 (And.intro @v162 (And.intro @v163 (And.intro @v164 (And.intro @v165 (And.intro @v166 (And.intro @v167 (And.intro @v168 (And.intro @v169 (And.intro @v170 (And.intro @v171 (And.intro @v172 (And.intro @v173 (And.intro @v174 (And.intro @v175 (And.intro @v176 (And.intro @v177 (And.intro @v178 (And.intro @v179 (And.intro @v180 (And.intro @v181 (And.intro @v182 (And.intro @v183 (And.intro @v184 (And.intro @v185 (And.intro @v186 (And.intro @v187 (And.intro @v188 (And.intro @v189 (And.intro @v190 (And.intro @v191 (And.intro @v192 (And.intro @v193 (And.intro @v194 (And.intro @v195 (And.intro @v196 (And.intro @v197 (And.intro @v198 (@v199)))))))))))))))))))))))))))))))))))))))
def EV5 := And.intro @v200 (And.intro @v201 (And.intro @v202 (And.intro @v203 (And.intro @v204 (And.intro @v205 (And.intro @v206 (And.intro @v207 (And.intro @v208 (And.intro @v209 (And.intro @v210 (And.intro @v211 (And.intro @v212 (And.intro @v213 (And.intro @v214 (And.intro @v215 (And.intro @v216 (And.intro @v217 (And.intro @v218 (And.intro @v219 (And.intro @v220 (And.intro @v221 (And.intro @v222 (And.intro @v223 (And.intro @v224 (And.intro @v225 (And.intro @v226 (And.intro @v227 (And.intro @v228 (And.intro @v229 (And.intro @v230 (And.intro @v231 (And.intro @v232 (And.intro @v233 (And.intro @v234 (And.intro @v235 (And.intro @v236 (And.intro @v237 (And.intro @v238 (@v239)))))))))))))))))))))))))))))))))))))))
def EV6 := And.intro @v240 (And.intro @v241 (And.intro @v242 (And.intro @v243 (And.intro @v244 (And.intro @v245 (And.intro @v246 (And.intro @v247 (And.intro @v248 (And.intro @v249 (And.intro @v250 (And.intro @v251 (And.intro @v252 (And.intro @v253 (And.intro @v254 (And.intro @v255 (And.intro @v256 (And.intro @v257 (And.intro @v258 (And.intro @v259 (And.intro @v260 (And.intro @v261 (And.intro @v262 (And.intro @v263 (And.intro @v264 (And.intro @v265 (And.intro @v266 (And.intro @v267 (And.intro @v268 (And.intro @v269 (And.intro @v270 (And.intro @v271 (And.intro @v272 (And.intro @v273 (And.intro @v274 (And.intro @v275 (And.intro @v276 (And.intro @v277 (And.intro @v278 (@v279)))))))))))))))))))))))))))))))))))))))
def EV7 := And.intro @v280 (And.intro @v281 (And.intro @v282 (And.intro @v283 (And.intro @v284 (And.intro @v285 (And.intro @v286 (And.intro @v287 (And.intro @v288 (And.intro @v289 (And.intro @v290 (And.intro @v291 (And.intro @v292 (And.intro @v293 (And.intro @v294 (And.intro @v295 (And.intro @v296 (And.intro @v297 (And.intro @v298 (And.intro @v299 (And.intro @v300 (And.intro @v301 (And.intro @v302 (And.intro @v303 (And.intro @v304 (And.intro @v305 (And.intro @v306 (And.intro @v307 (And.intro @v308 (And.intro @v309 (And.intro @v310 (And.intro @v311 (And.intro @v312 (And.intro @v313 (And.intro @v314 (And.intro @v315 (And.intro @v316 (And.intro @v317 (And.intro @v318 (@v319)))))))))))))))))))))))))))))))))))))))
def EV8 := And.intro @v320 (And.intro @v321 (And.intro @v322 (And.intro @v323 (And.intro @v324 (And.intro @v325 (And.intro @v326 (And.intro @v327 (And.intro @v328 (And.intro @v329 (And.intro @v330 (And.intro @v331 (And.intro @v332 (And.intro @v333 (And.intro @v334 (And.intro @v335 (And.intro @v336 (And.intro @v337 (And.intro @v338 (And.intro @v339 (And.intro @v340 (And.intro @v341 (And.intro @v342 (And.intro @v343 (And.intro @v344 (And.intro @v345 (And.intro @v346 (And.intro @v347 (And.intro @v348 (And.intro @v349 (And.intro @v350 (And.intro @v351 (And.intro @v352 (And.intro @v353 (And.intro @v354 (And.intro @v355 (And.intro @v356 (And.intro @v357 (And.intro @v358 (@v359)))))))))))))))))))))))))))))))))))))))
def EV9 := And.intro @v360 (And.intro @v361 (And.intro @v362 (And.intro @v363 (And.intro @v364 (And.intro @v365 (And.intro @v366 (And.intro @v367 (And.intro @v368 (And.intro @v369 (And.intro @v370 (And.intro @v371 (And.intro @v372 (And.intro @v373 (And.intro @v374 (And.intro @v375 (And.intro @v376 (And.intro @v377 (And.intro @v378 (And.intro @v379 (And.intro @v380 (And.intro @v381 (And.intro @v382 (And.intro @v383 (And.intro @v384 (And.intro @v385 (And.intro @v386 (And.intro @v387 (And.intro @v388 (And.intro @v389 (And.intro @v390 (And.intro @v391 (And.intro @v392 (And.intro @v393 (And.intro @v394 (@v395)))))))))))))))))))))))))))))))))))
/-- a new thing that a call makes and gives back -/
theorem fin_new {h h' : Hea} {d d' : Val} (hl : Nat.beq h'.length h.length = false) (s : shut h.length h.length h' = some h) (f : frz 40 h.length h' d = some d') : fin h d h' = .ok d' h := by
  unfold fin
  rw [if_neg (fun e => by rw [e] at hl; simp at hl), s, f]
theorem gc_cl {dead : List Nat} {n : Nat} {e : En} {h : Hea} (s : shut n n h = some h) : gcN dead n e h = (wipeAll e dead, h) := by
  unfold gcN
  dsimp only
  split
  · rename_i g hg
    split at hg
    · rw [s] at hg
      cases hg
      rfl
    · cases hg
  · rfl
end Lad
end
section
set_option maxRecDepth 10000
set_option maxHeartbeats 1000000
namespace Plc
open PySem L2 Lad
def l__law_pool_0 : En → Hea → SRes := (sIf (eAnd (eBin oGe (eVar 3) (eBin oPow (eC (.int 10)) (eC (.int 18)))) (eBin oGt (eVar 5) (eC (.int 0)))) (sSeq (sEx (eApp (eVar 4) (eBin oMod (eCB gInt (aCons (eVar 5) aNil)) (eC (.int 420)))))
  (sSet 5 (eBin oDiv (eVar 5) (eC (.int 420))))) (sSeq (sSet 7 (eBin oPow (eBin oAdd (eBin oAdd (eBin oMod (eCB gInt (aCons (eVar 3) aNil)) (eC (.int 2147483629))) (eBin oMul (eC (.int 7919)) (eVar 1))) (eC (.int 1))) (eC (.int 3))))
  (sSeq (sSet 7 (eBin oMul (eBin oAdd (eBin oMod (eCB gInt (aCons (eVar 7) aNil)) (eC (.int 2147483647))) (eBin oMul (eC (.int 104729)) (eBin oAdd (eVar 6) (eC (.int 1))))) (eBin oAdd (eVar 6) (eC (.int 3)))))
  (sSeq (sSet 7 (eBin oMod (eCB gInt (aCons (eVar 7) aNil)) (eC (.int 2147483629))))
  (sSeq (sSet 7 (eBin oMul (eBin oMod (eCB gInt (aCons (eBin oPow (eVar 7) (eC (.int 5))) aNil)) (eC (.int 2147483647))) (eC (.int 48271))))
  (sEx (eApp (eVar 4) (eBin oMod (eCB gInt (aCons (eBin oDiv (eBin oMod (eCB gInt (aCons (eVar 7) aNil)) (eC (.int 2147483629))) (eC (.int 16))) aNil)) (eC (.int 420))))))))))
def b__law_pool : En → Hea → SRes := (sSeq (sPar [3, 4] (aCons (eCB gMax2 (aCons (eCB gInt (aCons (eVar 0) aNil)) (aCons (eCB gInt (aCons (eBin oSub (eUn oNeg (eC (.int 1))) (eVar 0)) aNil)) aNil))) (aCons (eNew (lDisp aNil)) aNil)))
  (sSeq (sSet 5 (eVar 3))
  (sSeq (sFor (iRng1V (aCons (eVar 2) aNil)) (gN 6) l__law_pool_0)
  (sRet (eNew (lDisp (aCons (eVar 4) (aCons (eC (.int 0)) aNil))))))))
def c__law_pool : List Val → Hea → Res Val := runK 3 8 b__law_pool
def b__law_draw : En → Hea → SRes := (sSeq (sSet 2 (eBin oIx (eVar 0) (eC (.int 1))))
  (sSeq (sSetIx (eBin oAdd (eVar 2) (eC (.int 1))) (eVar 0) (eC (.int 1)))
  (sRet (eIf (eBin oLt (eVar 2) (eIt gLen (eBin oIx (eVar 0) (eC (.int 0))))) (eBin oMod (eCB gInt (aCons (eBin oIx (eBin oIx (eVar 0) (eC (.int 0))) (eVar 2)) aNil)) (eVar 1)) (eC (.int 0))))))
def c__law_draw : List Val → Hea → Res Val := runB 2 3 b__law_draw
def b__law_pick : En → Hea → SRes := (sRet (eBin oIx (eVar 1) (eCall c__law_draw (aCons (eVar 0) (aCons (eIt gLen (eVar 1)) aNil)))))
def c__law_pick : List Val → Hea → Res Val := runB 2 2 b__law_pick
/-- the script, the digits, the pool, what else is held -/
abbrev Hc (ns : List Int) (D : List Val) (n : Nat) (t : Hea) : Hea := .fro ns :: .lst D :: .lst [.ref 1, .int n] :: t
def DOk (D : List Val) : Prop := ∀ d ∈ D, ∃ i : Int, d = .int i ∧ 0 ≤ i ∧ i < 420
section
variable (ns : List Int) (D : List Val) (n : Nat) (t : Hea)
theorem ix1 : oIx (Hc ns D n t) (.ref 2) (.int 1) = some (.int n) := rfl
theorem ix0 : oIx (Hc ns D n t) (.ref 2) (.int 0) = some (.ref 1) := rfl
theorem set1 (v : Nat) : setIx (Hc ns D n t) (.ref 2) (.int 1) (.int v) = some (Hc ns D v t) := rfl
theorem its1 : itemsOf (Hc ns D n t) (.ref 1) = some D := rfl
end
theorem draw_ok (ns : List Int) {D : List Val} (ok : DOk D) (l : D.length < 1000) (n : Nat) (t : Hea) (m : Int) (m0 : 0 < m) (m1 : m < 1000) : ∃ r : Int, 0 ≤ r ∧ r < m ∧ c__law_draw [.ref 2, .int m] (Hc ns D n t) = .ok (.int r) (Hc ns D (n + 1) t) := by
  have i1 := ix1 ns D n t
  have i0 := ix0 ns D (n + 1) t
  have s1 := set1 ns D n t (n + 1)
  have it := its1 ns D (n + 1) t
  rw [Int.natCast_add, Int.natCast_one] at s1
  have hm : ¬ m = 0 := by omega
  by_cases hn : n < D.length
  · obtain ⟨i, e, i2, i3⟩ := ok D[n] (List.getElem_mem hn)
    have ix : oIx (Hc ns D (n + 1) t) (.ref 1) (.int n) = some (.int i) := by
      show L2.atI D (n : Int) = some (.int i)
      unfold L2.atI L2.ixN
      rw [if_pos (by omega), if_pos (by omega)]
      simp [hn, e]
    have lt : (n : Int) < (D.length : Int) := by omega
    refine ⟨i.fmod m, Int.fmod_nonneg_of_pos _ m0, Int.fmod_lt_of_pos _ m0, ?_⟩
    unfold c__law_draw b__law_draw
    simp (maxSteps := 2000000) (disch := (first | assumption | with_unfolding_all rfl | omega | with_unfolding_all decide)) only [Lad.EV0, Lad.EV1, Lad.EV2, Lad.EV3, Lad.EV4, Lad.EV5, Lad.EV6, Lad.EV7, Lad.EV8, Lad.EV9, List.getElem?_cons_zero, List.getElem?_cons_succ, List.set_cons_zero, List.set_cons_succ, List.map_cons, List.map_nil, List.length_cons, List.length_nil, List.cons_append, List.nil_append, List.replicate_succ, List.replicate_zero, List.zip_cons_cons, List.zip_nil_right, List.zip_nil_left, Option.map_some, Bool.not_true, Bool.not_false, if_true, if_false, if_pos, if_neg, Nat.reduceLeDiff, Int.reduceAdd, Int.reduceSub, Int.reduceNeg, Int.reduceMul, Int.reduceLT, Int.reduceLE, Nat.reduceAdd, Nat.reduceSub, Bool.false_eq_true, reduceIte, and_self, ↓i1, ↓s1, ↓i0, ↓it, lt, ↓ix]
  · have lt : ¬ ((n : Int) < (D.length : Int)) := by omega
    refine ⟨0, by omega, m0, ?_⟩
    unfold c__law_draw b__law_draw
    simp (maxSteps := 2000000) (disch := (first | assumption | with_unfolding_all rfl | omega | with_unfolding_all decide)) only [Lad.EV0, Lad.EV1, Lad.EV2, Lad.EV3, Lad.EV4, Lad.EV5, Lad.EV6, Lad.EV7, Lad.EV8, Lad.EV9, List.getElem?_cons_zero, List.getElem?_cons_succ, List.set_cons_zero, List.set_cons_succ, List.map_cons, List.map_nil, List.length_cons, List.length_nil, List.cons_append, List.nil_append, List.replicate_succ, List.replicate_zero, List.zip_cons_cons, List.zip_nil_right, List.zip_nil_left, Option.map_some, Bool.not_true, Bool.not_false, if_true, if_false, if_pos, if_neg, Nat.reduceLeDiff, Int.reduceAdd, Int.reduceSub, Int.reduceNeg, Int.reduceMul, Int.reduceLT, Int.reduceLE, Nat.reduceAdd, Nat.reduceSub, Bool.false_eq_true, reduceIte, and_self, ↓i1, ↓s1, ↓i0, ↓it, lt]
theorem pick_ok (ns : List Int) {D : List Val} (ok : DOk D) (l : D.length < 1000) (n : Nat) (t : Hea) {xs : List Val} (h0 : 0 < xs.length) (h1 : xs.length < 1000) : ∃ x ∈ xs, c__law_pick [.ref 2, .lst xs] (Hc ns D n t) = .ok x (Hc ns D (n + 1) t) := by
  obtain ⟨r, r0, r1, e⟩ := draw_ok ns ok l n t xs.length (by omega) (by omega)
  have hr : r.toNat < xs.length := by omega
  refine ⟨xs[r.toNat], List.getElem_mem hr, ?_⟩
  have ix : oIx (Hc ns D (n + 1) t) (.lst xs) (.int r) = some xs[r.toNat] := by
    show L2.atI xs r = _
    unfold L2.atI L2.ixN
    rw [if_pos r0, if_pos (by omega)]
    simp [hr]
  unfold c__law_pick b__law_pick
  simp (maxSteps := 2000000) (disch := (first | assumption | with_unfolding_all rfl | omega | with_unfolding_all decide)) only [Lad.EV0, Lad.EV1, Lad.EV2, Lad.EV3, Lad.EV4, Lad.EV5, Lad.EV6, Lad.EV7, Lad.EV8, Lad.EV9, List.getElem?_cons_zero, List.getElem?_cons_succ, List.set_cons_zero, List.set_cons_succ, List.map_cons, List.map_nil, List.length_cons, List.length_nil, List.cons_append, List.nil_append, List.replicate_succ, List.replicate_zero, List.zip_cons_cons, List.zip_nil_right, List.zip_nil_left, Option.map_some, Bool.not_true, Bool.not_false, if_true, if_false, if_pos, if_neg, Nat.reduceLeDiff, Int.reduceAdd, Int.reduceSub, Int.reduceNeg, Int.reduceMul, Int.reduceLT, Int.reduceLE, Nat.reduceAdd, Nat.reduceSub, Bool.false_eq_true, reduceIte, and_self, ↓e, ↓ix]
theorem pow18 (h : Hea) : oPow h (.int 10) (.int 18) = some (.int 1000000000000000000) := rfl
theorem powS (h : Hea) {x : Int} (n : Nat) (h0 : 0 ≤ x) (h1 : x < 18446744073709551616) (hn : n ≤ 5) : oPow h (.int x) (.int n) = some (.int (x ^ n)) := by
  show (if 0 ≤ (n : Int) ∧ (n : Int) ≤ 1000000 ∧ x.natAbs < 2 ^ 64 then some (Val.int (x ^ (n : Int).toNat)) else none) = _
  rw [if_pos ⟨by omega, by omega, by omega⟩]
  rfl
theorem digit (ns : List Int) {D : List Val} (ok : DOk D) (l : D.length < 1000) (z salt m whole left k : Int) (w0 : 0 ≤ whole) (l0 : 0 ≤ left) (s0 : 0 ≤ salt) (s1 : salt ≤ 10000) (k0 : 0 ≤ k) (k1 : k < 1000) (x7 : Option Val) :
    ∃ (d left' : Int) (x7' : Option Val), 0 ≤ d ∧ d < 420 ∧ 0 ≤ left' ∧ l__law_pool_0 [some (.int z), some (.int salt), some (.int m), some (.int whole), some (.ref 1), some (.int left), some (.int k), x7] [.fro ns, .lst D] = .nx [some (.int z), some (.int salt), some (.int m), some (.int whole), some (.ref 1), some (.int left'), some (.int k), x7'] [.fro ns, .lst (D ++ [.int d])] := by
  have la : D.length < 16777216 := by omega
  unfold l__law_pool_0
  by_cases hA : 1000000000000000000 ≤ whole ∧ 0 < left
  · refine ⟨left.fmod 420, left.fdiv 420, x7, Int.fmod_nonneg_of_pos _ (by decide), Int.fmod_lt_of_pos _ (by decide), Int.fdiv_nonneg l0 (by decide), ?_⟩
    have hA1 := hA.1
    have hA2 := hA.2
    simp (maxSteps := 2000000) (disch := (first | assumption | with_unfolding_all rfl | omega | with_unfolding_all decide)) only [Lad.EV0, Lad.EV1, Lad.EV2, Lad.EV3, Lad.EV4, Lad.EV5, Lad.EV6, Lad.EV7, Lad.EV8, Lad.EV9, List.getElem?_cons_zero, List.getElem?_cons_succ, List.set_cons_zero, List.set_cons_succ, List.map_cons, List.map_nil, List.length_cons, List.length_nil, List.cons_append, List.nil_append, List.replicate_succ, List.replicate_zero, List.zip_cons_cons, List.zip_nil_right, List.zip_nil_left, Option.map_some, Bool.not_true, Bool.not_false, if_true, if_false, if_pos, if_neg, Nat.reduceLeDiff, Int.reduceAdd, Int.reduceSub, Int.reduceNeg, Int.reduceMul, Int.reduceLT, Int.reduceLE, Nat.reduceAdd, Nat.reduceSub, Bool.false_eq_true, reduceIte, and_self, pow18, hA1, hA2, la]
  · have b0 : 0 ≤ whole.fmod 2147483629 := Int.fmod_nonneg_of_pos _ (by decide)
    have b1 : whole.fmod 2147483629 < 2147483629 := Int.fmod_lt_of_pos _ (by decide)
    have p1 : ∀ h, oPow h (.int (whole.fmod 2147483629 + 7919 * salt + 1)) (.int 3) = some (.int ((whole.fmod 2147483629 + 7919 * salt + 1) ^ 3)) := fun h => powS h (x := whole.fmod 2147483629 + 7919 * salt + 1) 3 (by omega) (by omega) (by decide)
    generalize hx : (((whole.fmod 2147483629 + 7919 * salt + 1) ^ 3).fmod 2147483647 + 104729 * (k + 1)) * (k + 3) = x at *
    have c0 : 0 ≤ x.fmod 2147483629 := Int.fmod_nonneg_of_pos _ (by decide)
    have c1 : x.fmod 2147483629 < 2147483629 := Int.fmod_lt_of_pos _ (by decide)
    have p2 : ∀ h, oPow h (.int (x.fmod 2147483629)) (.int 5) = some (.int ((x.fmod 2147483629) ^ 5)) := fun h => powS h (x := x.fmod 2147483629) 5 (by omega) (by omega) (by decide)
    have m1 : mulOk 7919 salt = true := mulOk_l (by decide)
    have m2 : mulOk 104729 (k + 1) = true := mulOk_l (by decide)
    have m3 : ∀ y, mulOk y (k + 3) = true := fun y => mulOk_r (by omega)
    have m4 : ∀ y, mulOk y 48271 = true := fun y => mulOk_r (by decide)
    refine ⟨(((((x.fmod 2147483629) ^ 5).fmod 2147483647 * 48271).fmod 2147483629).fdiv 16).fmod 420, left, some (.int (((x.fmod 2147483629) ^ 5).fmod 2147483647 * 48271)), Int.fmod_nonneg_of_pos _ (by decide), Int.fmod_lt_of_pos _ (by decide), l0, ?_⟩
    by_cases hB : 1000000000000000000 ≤ whole
    · have hC : ¬ 0 < left := fun q => hA ⟨hB, q⟩
      simp (maxSteps := 2000000) (disch := (first | assumption | with_unfolding_all rfl | omega | with_unfolding_all decide)) only [Lad.EV0, Lad.EV1, Lad.EV2, Lad.EV3, Lad.EV4, Lad.EV5, Lad.EV6, Lad.EV7, Lad.EV8, Lad.EV9, List.getElem?_cons_zero, List.getElem?_cons_succ, List.set_cons_zero, List.set_cons_succ, List.map_cons, List.map_nil, List.length_cons, List.length_nil, List.cons_append, List.nil_append, List.replicate_succ, List.replicate_zero, List.zip_cons_cons, List.zip_nil_right, List.zip_nil_left, Option.map_some, Bool.not_true, Bool.not_false, if_true, if_false, if_pos, if_neg, Nat.reduceLeDiff, Int.reduceAdd, Int.reduceSub, Int.reduceNeg, Int.reduceMul, Int.reduceLT, Int.reduceLE, Nat.reduceAdd, Nat.reduceSub, Bool.false_eq_true, reduceIte, and_self, pow18, hB, hC, la, ↓p1, m1, m2, m3, m4, hx, ↓p2]
    · simp (maxSteps := 2000000) (disch := (first | assumption | with_unfolding_all rfl | omega | with_unfolding_all decide)) only [Lad.EV0, Lad.EV1, Lad.EV2, Lad.EV3, Lad.EV4, Lad.EV5, Lad.EV6, Lad.EV7, Lad.EV8, Lad.EV9, List.getElem?_cons_zero, List.getElem?_cons_succ, List.set_cons_zero, List.set_cons_succ, List.map_cons, List.map_nil, List.length_cons, List.length_nil, List.cons_append, List.nil_append, List.replicate_succ, List.replicate_zero, List.zip_cons_cons, List.zip_nil_right, List.zip_nil_left, Option.map_some, Bool.not_true, Bool.not_false, if_true, if_false, if_pos, if_neg, Nat.reduceLeDiff, Int.reduceAdd, Int.reduceSub, Int.reduceNeg, Int.reduceMul, Int.reduceLT, Int.reduceLE, Nat.reduceAdd, Nat.reduceSub, Bool.false_eq_true, reduceIte, and_self, pow18, hB, la, ↓p1, m1, m2, m3, m4, hx, ↓p2]
theorem loopD (ns : List Int) (z salt m whole : Int) (w0 : 0 ≤ whole) (s0 : 0 ≤ salt) (s1 : salt ≤ 10000) : ∀ (ks : List Val) (hk : ∀ v ∈ ks, ∃ k : Int, v = .int k ∧ 0 ≤ k ∧ k < 1000) (D : List Val) (ok : DOk D) (l : D.length + ks.length < 1000) (left : Int) (l0 : 0 ≤ left) (x6 x7 : Option Val),
    ∃ D' e', DOk D' ∧ D'.length = D.length + ks.length ∧ forL (gN 6) l__law_pool_0 ks [some (.int z), some (.int salt), some (.int m), some (.int whole), some (.ref 1), some (.int left), x6, x7] [.fro ns, .lst D] = .nx e' [.fro ns, .lst D'] ∧ e'[4]? = some (some (.ref 1))
  | [], _, D, ok, l, left, l0, x6, x7 => ⟨D, _, ok, rfl, rfl, rfl⟩
  | v :: vs, hk, D, ok, l, left, l0, x6, x7 => by
    obtain ⟨k, rfl, k0, k1⟩ := hk v List.mem_cons_self
    have l : D.length + (vs.length + 1) < 1000 := l
    obtain ⟨d, left', x7', d0, d1, l0', e⟩ := digit ns ok (by omega) z salt m whole left k w0 l0 s0 s1 k0 k1 x7
    have ok' : DOk (D ++ [.int d]) := fun q hq => by
      rcases List.mem_append.mp hq with q1 | q1
      · exact ok q q1
      · rw [List.mem_singleton.mp q1]
        exact ⟨d, rfl, d0, d1⟩
    obtain ⟨D', e', o1, o2, o3, o4⟩ := loopD ns z salt m whole w0 s0 s1 vs (fun u hu => hk u (List.mem_cons_of_mem _ hu)) (D ++ [.int d]) ok' (by simp; omega) left' l0' (some (.int k)) x7'
    refine ⟨D', e', o1, by rw [o2]; simp; omega, ?_, o4⟩
    unfold forL
    simp only [gN, List.set_cons_succ, List.set_cons_zero]
    rw [e]
    exact o3
theorem pool_ok (ns : List Int) (z salt : Int) (s0 : 0 ≤ salt) (s1 : salt ≤ 10000) : ∃ D, DOk D ∧ D.length = 60 ∧ c__law_pool [.int z, .int salt, .int 60] [.fro ns] = .ok (.ref 2) (Hc ns D 0 []) := by
  obtain ⟨w, w0, hw⟩ : ∃ w : Int, 0 ≤ w ∧ ∀ h, gMax2 h [.int z, .int (-1 - z)] = some (.int w) := ⟨if -1 - z > z then -1 - z else z, by split <;> omega, fun h => rfl⟩
  obtain ⟨D, e', o1, o2, o3, o4⟩ := loopD ns z salt 60 w w0 s0 s1 (rangeV 0 60) (fun v hv => by
    unfold rangeV at hv
    obtain ⟨i, hi, rfl⟩ := List.mem_map.mp hv
    rw [List.mem_range] at hi
    exact ⟨0 + (i : Int), rfl, by omega, by omega⟩) [] (fun d hd => by simp at hd) (by decide) w w0 none none
  have o2 : D.length = 60 := o2
  refine ⟨D, o1, o2, ?_⟩
  have r60 : rngOk 60 = true := rfl
  have t60 : Int.toNat 60 = 60 := rfl
  have v4 : ∀ h, eVar 4 e' h = .ok (.ref 1) h := fun h => by
    show (match e'[4]? with | some (some d) => Res.ok d h | _ => .stuck) = _
    rw [o4]
  unfold c__law_pool b__law_pool
  simp (maxSteps := 2000000) (disch := (first | assumption | with_unfolding_all rfl | omega | with_unfolding_all decide)) only [Lad.EV0, Lad.EV1, Lad.EV2, Lad.EV3, Lad.EV4, Lad.EV5, Lad.EV6, Lad.EV7, Lad.EV8, Lad.EV9, List.getElem?_cons_zero, List.getElem?_cons_succ, List.set_cons_zero, List.set_cons_succ, List.map_cons, List.map_nil, List.length_cons, List.length_nil, List.cons_append, List.nil_append, List.replicate_succ, List.replicate_zero, List.zip_cons_cons, List.zip_nil_right, List.zip_nil_left, Option.map_some, Bool.not_true, Bool.not_false, if_true, if_false, if_pos, if_neg, Nat.reduceLeDiff, Int.reduceAdd, Int.reduceSub, Int.reduceNeg, Int.reduceMul, Int.reduceLT, Int.reduceLE, Nat.reduceAdd, Nat.reduceSub, Bool.false_eq_true, reduceIte, and_self, ↓hw, r60, t60, ↓o3, ↓v4]
  rfl
end Plc
end
section
set_option maxRecDepth 10000
set_option maxHeartbeats 1000000
namespace Mo
open PySem L2 Lad Bk Sp
theorem rx0 (h : Hea) (r : Row) : oIx h (rowV r) (.int 0) = some (.int r.1) := rfl
theorem isl (h : Hea) (xs : List Val) : isL h (.lst xs) = true := rfl
end Mo
end
section
set_option maxRecDepth 10000
set_option maxHeartbeats 1000000
namespace Lad
open PySem L2
end Lad
end
section
set_option maxRecDepth 10000
set_option maxHeartbeats 1000000
namespace K41
open PySem L2 Lad Bk Plc
theorem q_draw : c__law_draw = Plc.c__law_draw := rfl
theorem q_pool : c__law_pool = Plc.c__law_pool := rfl
theorem q_pick : c__law_pick = Plc.c__law_pick := rfl
theorem q_table : c_is_table = Bk.c_is_table := rfl
theorem q_row : c_row_at = Bk.c_row_at := rfl
theorem q_int : c_is_integer = Bk.c_is_integer := rfl
theorem entry_ok (ns : List Int) {D : List Val} (ok : DOk D) (l : D.length < 1000) (n : Nat) (t : Hea) : ∃ en : Ent, EntOk en ∧ en ≠ some (9, 9) ∧ c__law_entry [.ref 2] (Hc ns D n t) = .ok (entV en) (Hc ns D (n + 1) t) := by
  obtain ⟨x, hx, e⟩ := pick_ok ns ok l n t (xs := [.tup [.int 1, .int (-1)], .tup [.int 1, .int (-1)], .tup [.int 1, .int 0], .tup [.int 2, .int (-1)], .tup [.int 0, .int 0], .tup [.int 0, .int (-1)], .tup [.int (-1), .int 1], .tup [.int (-1), .int 2], .tup [.int 1, .int 1], .non, .non, .tup [.int 3, .int (-2)]]) (by decide) (by decide)
  have he : ∃ en : Ent, EntOk en ∧ en ≠ some (9, 9) ∧ x = entV en := by
    simp only [List.mem_cons, List.not_mem_nil, or_false] at hx
    rcases hx with rfl | rfl | rfl | rfl | rfl | rfl | rfl | rfl | rfl | rfl | rfl | rfl
    · exact ⟨some (1, -1), ⟨by decide, by decide, by decide, by decide⟩, by decide, rfl⟩
    · exact ⟨some (1, -1), ⟨by decide, by decide, by decide, by decide⟩, by decide, rfl⟩
    · exact ⟨some (1, 0), ⟨by decide, by decide, by decide, by decide⟩, by decide, rfl⟩
    · exact ⟨some (2, -1), ⟨by decide, by decide, by decide, by decide⟩, by decide, rfl⟩
    · exact ⟨some (0, 0), ⟨by decide, by decide, by decide, by decide⟩, by decide, rfl⟩
    · exact ⟨some (0, -1), ⟨by decide, by decide, by decide, by decide⟩, by decide, rfl⟩
    · exact ⟨some (-1, 1), ⟨by decide, by decide, by decide, by decide⟩, by decide, rfl⟩
    · exact ⟨some (-1, 2), ⟨by decide, by decide, by decide, by decide⟩, by decide, rfl⟩
    · exact ⟨some (1, 1), ⟨by decide, by decide, by decide, by decide⟩, by decide, rfl⟩
    · exact ⟨none, trivial, by decide, rfl⟩
    · exact ⟨none, trivial, by decide, rfl⟩
    · exact ⟨some (3, -2), ⟨by decide, by decide, by decide, by decide⟩, by decide, rfl⟩
  obtain ⟨en, oe, n9, rfl⟩ := he
  refine ⟨en, oe, n9, ?_⟩
  unfold c__law_entry b__law_entry
  rw [q_pick]
  simp (maxSteps := 2000000) (disch := (first | assumption | with_unfolding_all rfl | omega | with_unfolding_all decide)) only [Lad.EV0, Lad.EV1, Lad.EV2, Lad.EV3, Lad.EV4, Lad.EV5, Lad.EV6, Lad.EV7, Lad.EV8, Lad.EV9, List.getElem?_cons_zero, List.getElem?_cons_succ, List.set_cons_zero, List.set_cons_succ, List.map_cons, List.map_nil, List.length_cons, List.length_nil, List.cons_append, List.nil_append, List.replicate_succ, List.replicate_zero, List.zip_cons_cons, List.zip_nil_right, List.zip_nil_left, Option.map_some, Bool.not_true, Bool.not_false, if_true, if_false, if_pos, if_neg, Nat.reduceLeDiff, Int.reduceAdd, Int.reduceSub, Int.reduceNeg, Int.reduceMul, Int.reduceLT, Int.reduceLE, Nat.reduceAdd, Nat.reduceSub, Bool.false_eq_true, reduceIte, and_self, ↓e]
theorem fin_rows (ns : List Int) (D : List Val) (n m : Nat) (dd : DOk D) (rows : List Row) : fin (Hc ns D n []) (.ref 3) (Hc ns D m [.lst (rows.map rowV)]) = .ok (.lst (rows.map rowV)) (Hc ns D m []) := by
  have ud : undL 3 D = true := by
    have : ∀ xs : List Val, DOk xs → undL 3 xs = true := by
      intro xs
      induction xs with
      | nil => intro _; rfl
      | cons x xs ih =>
        intro ok
        obtain ⟨i, rfl, _⟩ := ok x List.mem_cons_self
        show (true && undL 3 xs) = true
        rw [ih fun d hd => ok d (List.mem_cons_of_mem _ hd)]; rfl
    exact this D dd
  have e1 : shut 3 3 (Hc ns D m [.lst (rows.map rowV)]) = some (Hc ns D m []) := by
    have u1 : (Ob.fro ns).und 3 = true := rfl
    have u2 : (Ob.lst D).und 3 = true := ud
    have u3 : (Ob.lst [.ref 1, .int m]).und 3 = true := rfl
    simp only [Hc, shut, u1, u2, u3, if_true, Option.map_some]
  have e2 : frz 40 3 (Hc ns D m [.lst (rows.map rowV)]) (.ref 3) = some (.lst (rows.map rowV)) := by
    show (mapO (frz 39 3 _) (rows.map rowV)).map Val.lst = _
    rw [frz_rows 37]; rfl
  unfold fin
  rw [if_neg (by simp)]
  show (match shut 3 3 _ with | none => _ | some g => _) = _
  rw [e1]
  show (match frz 40 3 _ (.ref 3) with | some d' => _ | none => _) = _
  rw [e2]
theorem rows_ok (ns : List Int) {D : List Val} (ok : DOk D) (l : D.length < 1000) (n : Nat) : ∃ (rows : List Row) (m : Nat), TabOk rows ∧ rows.length ≤ 2 ∧ (∀ r ∈ rows, r.1 ≤ 2 ∧ r.2.1 ≠ some (9, 9)) ∧ c__law_duel_rows [.ref 2] (Hc ns D n []) = .ok (.lst (rows.map rowV)) (Hc ns D m []) := by
  obtain ⟨e1, o1, ne1, g1⟩ := entry_ok ns ok l n []
  obtain ⟨e2, o2, ne2, g2⟩ := entry_ok ns ok l (n + 1) []
  obtain ⟨e3, o3, ne3, g3⟩ := entry_ok ns ok l (n + 2) []
  have t1 : TabOk [(0, e1, e2, e3)] := Sp.tab_one (r := (0, e1, e2, e3)) ⟨Int.le_refl _, by show (0 : Int) ≤ 23; decide, o1, o2, o3⟩ rfl
  obtain ⟨x, x0, x1, g4⟩ := draw_ok ns ok l (n + 3) [.lst [rowV (0, e1, e2, e3)]] 2 (by decide) (by decide)
  by_cases hx : x = 0
  · subst hx
    obtain ⟨y, y0, y1, g5⟩ := draw_ok ns ok l (n + 4) [.lst [rowV (0, e1, e2, e3)]] 2 (by decide) (by decide)
    obtain ⟨f1, p1, nf1, k1⟩ := entry_ok ns ok l (n + 5) [.lst [rowV (0, e1, e2, e3)]]
    obtain ⟨f2, p2, nf2, k2⟩ := entry_ok ns ok l (n + 6) [.lst [rowV (0, e1, e2, e3)]]
    obtain ⟨f3, p3, nf3, k3⟩ := entry_ok ns ok l (n + 7) [.lst [rowV (0, e1, e2, e3)]]
    have t2 : TabOk [(0, e1, e2, e3), (1 + y, f1, f2, f3)] := Sp.tab_app (rows := [(0, e1, e2, e3)]) (r := (1 + y, f1, f2, f3)) (q := (0, e1, e2, e3)) t1 (Nat.le_of_ble_eq_true rfl) ⟨by show 0 ≤ 1 + y; omega, by show 1 + y ≤ 23; omega, p1, p2, p3⟩ rfl (by show (0 : Int) < 1 + y; omega)
    refine ⟨[(0, e1, e2, e3), (1 + y, f1, f2, f3)], n + 8, t2, Nat.le_of_ble_eq_true rfl, ?_, ?_⟩
    · intro r hr
      simp only [List.mem_cons, List.not_mem_nil, or_false] at hr
      rcases hr with rfl | rfl
      · exact ⟨by show (0 : Int) ≤ 2; decide, ne1⟩
      · exact ⟨by show 1 + y ≤ 2; omega, nf1⟩
    · unfold c__law_duel_rows b__law_duel_rows
      rw [q_draw]
      simp only [rowV] at g4 g5 k1 k2 k3
      simp (maxSteps := 2000000) (disch := (first | assumption | with_unfolding_all rfl | omega | with_unfolding_all decide)) only [Lad.EV0, Lad.EV1, Lad.EV2, Lad.EV3, Lad.EV4, Lad.EV5, Lad.EV6, Lad.EV7, Lad.EV8, Lad.EV9, List.getElem?_cons_zero, List.getElem?_cons_succ, List.set_cons_zero, List.set_cons_succ, List.map_cons, List.map_nil, List.length_cons, List.length_nil, List.cons_append, List.nil_append, List.replicate_succ, List.replicate_zero, List.zip_cons_cons, List.zip_nil_right, List.zip_nil_left, Option.map_some, Bool.not_true, Bool.not_false, if_true, if_false, if_pos, if_neg, Nat.reduceLeDiff, Int.reduceAdd, Int.reduceSub, Int.reduceNeg, Int.reduceMul, Int.reduceLT, Int.reduceLE, Nat.reduceAdd, Nat.reduceSub, Bool.false_eq_true, reduceIte, and_self, ↓g1, ↓g2, ↓g3, ↓g4, ↓g5, ↓k1, ↓k2, ↓k3]
      exact fin_rows ns D n (n + 8) ok [(0, e1, e2, e3), (1 + y, f1, f2, f3)]
  · refine ⟨[(0, e1, e2, e3)], n + 4, t1, Nat.le_of_ble_eq_true rfl, ?_, ?_⟩
    · intro r hr
      simp only [List.mem_cons, List.not_mem_nil, or_false] at hr
      subst hr
      exact ⟨by show (0 : Int) ≤ 2; decide, ne1⟩
    · unfold c__law_duel_rows b__law_duel_rows
      rw [q_draw]
      simp only [rowV] at g4
      simp (maxSteps := 2000000) (disch := (first | assumption | with_unfolding_all rfl | omega | with_unfolding_all decide)) only [Lad.EV0, Lad.EV1, Lad.EV2, Lad.EV3, Lad.EV4, Lad.EV5, Lad.EV6, Lad.EV7, Lad.EV8, Lad.EV9, List.getElem?_cons_zero, List.getElem?_cons_succ, List.set_cons_zero, List.set_cons_succ, List.map_cons, List.map_nil, List.length_cons, List.length_nil, List.cons_append, List.nil_append, List.replicate_succ, List.replicate_zero, List.zip_cons_cons, List.zip_nil_right, List.zip_nil_left, Option.map_some, Bool.not_true, Bool.not_false, if_true, if_false, if_pos, if_neg, Nat.reduceLeDiff, Int.reduceAdd, Int.reduceSub, Int.reduceNeg, Int.reduceMul, Int.reduceLT, Int.reduceLE, Nat.reduceAdd, Nat.reduceSub, Bool.false_eq_true, reduceIte, and_self, ↓g1, ↓g2, ↓g3, ↓g4, hx]
      exact fin_rows ns D n (n + 4) ok [(0, e1, e2, e3)]
end K41
end
section
set_option maxRecDepth 10000
set_option maxHeartbeats 1000000
namespace K41
open PySem L2 Lad Bk Plc
def entI : Ent → List Int
  | some (a, b) => [((a - b).natAbs : Int)]
  | none => []
def rowI (r : Row) : List Int := entI r.2.1 ++ entI r.2.2.1 ++ entI r.2.2.2
def mx (a x : Int) : Int := if x > a then x else a
def parts (rows : List Row) : List Int := rows.flatMap rowI
def span (rows : List Row) : Int := (parts rows).foldl mx 0
def lastB (rows : List Row) : Int := match rows.getLast? with
  | some r => r.1
  | none => 0
def far (rows : List Row) : Int := mx (span rows) (lastB rows)
def duV (rows : List Row) : Val := .obj 34 [2, 27, 28] [.tup (rows.map rowV), .int (span rows), .int (far rows)]
theorem parts_nn {rows : List Row} : ∀ x ∈ parts rows, 0 ≤ x := by
  intro x hx
  obtain ⟨r, _, hx⟩ := List.mem_flatMap.mp hx
  have one : ∀ en : Ent, x ∈ entI en → 0 ≤ x := by
    intro en h
    cases en with
    | none => simp [entI] at h
    | some q => obtain ⟨a, b⟩ := q; simp [entI] at h; omega
  unfold rowI at hx
  rcases List.mem_append.mp hx with h | h
  · rcases List.mem_append.mp h with h | h
    · exact one _ h
    · exact one _ h
  · exact one _ h
theorem iMax_fold : ∀ {xs : List Int} {x : Int}, 0 ≤ x → iMax (x :: xs) = some ((x :: xs).foldl mx 0) := by
  intro xs x hx
  have e : mx 0 x = x := by unfold mx; split <;> omega
  rw [List.foldl_cons, e]
  rfl
theorem parts_len : ∀ {rows : List Row}, (parts rows).length ≤ rows.length * 3
  | [] => Nat.le_refl _
  | r :: rows => by
    have ih := parts_len (rows := rows)
    have one : ∀ en : Ent, (entI en).length ≤ 1 := fun en => by
      cases en with
      | none => exact Nat.zero_le _
      | some q => exact Nat.le_refl _
    have h1 := one r.2.1
    have h2 := one r.2.2.1
    have h3 := one r.2.2.2
    have e : parts (r :: rows) = rowI r ++ parts rows := rfl
    rw [e, List.length_append]
    unfold rowI
    simp only [List.length_append, List.length_cons]
    omega
def nn : Val → Bool
  | .non => false
  | _ => true
def dif : Val → Val
  | .tup [.int a, .int b] => .int ((a - b).natAbs : Int)
  | v => v
theorem ent_fm (en : Ent) : ([entV en].filter nn).map dif = (entI en).map Val.int := by
  cases en with
  | none => rfl
  | some q => rfl
theorem row_fm (r : Row) : ([entV r.2.1, entV r.2.2.1, entV r.2.2.2].filter nn).map dif = (rowI r).map Val.int := by
  unfold rowI
  rw [List.map_append, List.map_append, ← ent_fm, ← ent_fm, ← ent_fm, ← List.map_append, ← List.map_append, ← List.filter_append, ← List.filter_append]
  rfl
def tl3 : Val → List Val
  | .tup (_ :: xs) => xs
  | _ => []
theorem rows_fm : ∀ rows : List Row, ((rows.map rowV).flatMap fun v => ((tl3 v).filter nn).map dif) = (parts rows).map Val.int
  | [] => rfl
  | r :: rows => by
    rw [List.map_cons, List.flatMap_cons, rows_fm rows]
    have e : parts (r :: rows) = rowI r ++ parts rows := rfl
    rw [e, List.map_append, ← row_fm]
    rfl
theorem isn_ent (h : Hea) (en : Ent) : oIsNot h (entV en) .non = some (.bl (nn (entV en))) := by
  cases en with
  | none => rfl
  | some q => rfl
theorem ints_map : ∀ ns : List Int, ints? (ns.map Val.int) = some ns
  | [] => rfl
  | n :: ns => by
    simp [ints?, ints_map ns]
section
variable {ns : List Int} {D : List Val} {m : Nat} {rows : List Row}
theorem comp_ok (rows : List Row) (hl : rows.length ≤ 100) (h : Hea) (e : En) (fl : eFld (Nat.beq 34) 2 (eVar 0) e h = .ok (.tup (rows.map rowV)) h) (l6 : e.length = 6) :
    lComp2 [3, 4] [4] (iSeq (eFld (Nat.beq 34) 2 (eVar 0))) (gN 3) eYes (iSeq (eCutA (eVar 3) (some (eC (.int 1))) none)) (gN 4) (eBin oIsNot (eVar 4) (eC .non)) (eCB gInt (aCons (eCB gAbs (aCons (eBin oSub (eBin oIx (eVar 4) (eC (.int 0))) (eBin oIx (eVar 4) (eC (.int 1)))) aNil)) aNil)) e h = .ok ((parts rows).map Val.int) h := by
  rw [← rows_fm rows]
  match e, l6 with
  | [e0, e1, e2, e3, e4, e5], _ =>
  refine comp2_eq (ys := tl3) (p := fun _ u => nn u) (z := fun _ u => dif u) (B := 3) (e := [e0, e1, e2, e3, e4, e5]) (xs := rows.map rowV) ?_ ?_ ?_ ?_
  · have z : (rows.map rowV).length ≤ 16777216 := by rw [List.length_map]; omega
    simp (maxSteps := 2000000) (disch := (first | assumption | with_unfolding_all rfl | omega | with_unfolding_all decide)) only [Lad.EV0, Lad.EV1, Lad.EV2, Lad.EV3, Lad.EV4, Lad.EV5, Lad.EV6, Lad.EV7, Lad.EV8, Lad.EV9, List.getElem?_cons_zero, List.getElem?_cons_succ, List.set_cons_zero, List.set_cons_succ, List.map_cons, List.map_nil, List.length_cons, List.length_nil, List.cons_append, List.nil_append, List.replicate_succ, List.replicate_zero, List.zip_cons_cons, List.zip_nil_right, List.zip_nil_left, Option.map_some, Bool.not_true, Bool.not_false, if_true, if_false, if_pos, if_neg, Nat.reduceLeDiff, Int.reduceAdd, Int.reduceSub, Int.reduceNeg, Int.reduceMul, Int.reduceLT, Int.reduceLE, Nat.reduceAdd, Nat.reduceSub, Bool.false_eq_true, reduceIte, and_self, ↓fl, z]
  · intro v hv
    obtain ⟨r, _, rfl⟩ := List.mem_map.mp hv
    exact Nat.le_refl _
  · intro v hv
    obtain ⟨r, _, rfl⟩ := List.mem_map.mp hv
    refine ⟨_, rfl, rfl, rfl, fun u hu => ?_⟩
    have hu : u ∈ [entV r.2.1, entV r.2.2.1, entV r.2.2.2] := hu
    have key : ∀ en : Ent, u = entV en → ∃ e2_1, gN 4 u (wipeE (wipeE [e0, e1, e2, e3, e4, e5] [3, 4] |>.set 3 (some (rowV r))) [4]) = some e2_1 ∧ eBin oIsNot (eVar 4) (eC .non) e2_1 h = .ok (.bl (nn u)) h ∧ (nn u = true → eCB gInt (aCons (eCB gAbs (aCons (eBin oSub (eBin oIx (eVar 4) (eC (.int 0))) (eBin oIx (eVar 4) (eC (.int 1)))) aNil)) aNil) e2_1 h = .ok (dif u) h) := by
      rintro en rfl
      refine ⟨_, rfl, ?_, fun _ => ?_⟩
      · have q := isn_ent h en
        show (match oIsNot h (entV en) .non with | some d => Res.ok d h | none => _) = _
        rw [q]
      · cases en with
        | none => rename_i hh; cases hh
        | some q =>
          obtain ⟨a, b⟩ := q
          show eCB gInt (aCons (eCB gAbs (aCons (eBin oSub (eBin oIx (eVar 4) (eC (.int 0))) (eBin oIx (eVar 4) (eC (.int 1)))) aNil)) aNil) [e0, e1, e2, some (rowV r), some (.tup [.int a, .int b]), e5] h = .ok (.int ((a - b).natAbs : Int)) h
          simp (maxSteps := 2000000) (disch := (first | assumption | with_unfolding_all rfl | omega | with_unfolding_all decide)) only [Lad.EV0, Lad.EV1, Lad.EV2, Lad.EV3, Lad.EV4, Lad.EV5, Lad.EV6, Lad.EV7, Lad.EV8, Lad.EV9, List.getElem?_cons_zero, List.getElem?_cons_succ, List.set_cons_zero, List.set_cons_succ, List.map_cons, List.map_nil, List.length_cons, List.length_nil, List.cons_append, List.nil_append, List.replicate_succ, List.replicate_zero, List.zip_cons_cons, List.zip_nil_right, List.zip_nil_left, Option.map_some, Bool.not_true, Bool.not_false, if_true, if_false, if_pos, if_neg, Nat.reduceLeDiff, Int.reduceAdd, Int.reduceSub, Int.reduceNeg, Int.reduceMul, Int.reduceLT, Int.reduceLE, Nat.reduceAdd, Nat.reduceSub, Bool.false_eq_true, reduceIte, and_self]
    simp only [List.mem_cons, List.not_mem_nil, or_false] at hu
    rcases hu with rfl | rfl | rfl
    · exact key _ rfl
    · exact key _ rfl
    · exact key _ rfl
  · rw [List.length_map]
    omega
theorem gmax_ok {rows : List Row} (ne : parts rows ≠ []) : gMax ((parts rows).map Val.int) = some (.int (span rows)) := by
  unfold gMax
  rw [ints_map]
  show ((some (parts rows)).bind iMax).map Val.int = _
  have nn := parts_nn (rows := rows)
  unfold span
  cases hp : parts rows with
  | nil => exact absurd hp ne
  | cons x xs =>
    rw [hp] at nn
    show (iMax (x :: xs)).map Val.int = _
    rw [iMax_fold (nn x List.mem_cons_self)]
    rfl
theorem tab_last {rows : List Row} (t : TabOk rows) : ∃ r, rows.getLast? = some r ∧ lastB rows = r.1 := by
  cases h : rows.getLast? with
  | none =>
    have h0 := t.n0
    rw [List.getLast?_eq_none_iff] at h
    subst h
    simp at h0
  | some r => exact ⟨r, rfl, by unfold lastB; rw [h]⟩
theorem init_ok (t : TabOk rows) (hl : rows.length ≤ 6) (tv : Val) (ht : tv = .lst (rows.map rowV) ∨ tv = .tup (rows.map rowV)) :
    c_Duel___init__ [.ref 3, tv] (Hc ns D m [.ins 34 []]) = .ok .non (Hc ns D m [.ins 34 [(2, .tup (rows.map rowV)), (27, .int (span rows)), (28, .int (far rows))]]) := by
  have tb := fun h => table_ok h t tv ht
  obtain ⟨r, hr, er⟩ := tab_last t
  have hgt : ∀ (e : En) (h : Hea), e[1]? = some (some tv) → eIt gTuple (eVar 1) e h = .ok (.tup (rows.map rowV)) h := by
    intro e h he
    rw [ap_it, ap_var, he]
    rcases ht with rfl | rfl <;> rfl
  refine (run_nx (fn := fin) (e' := [some (.ref 3), some tv, some (.lst ((parts rows).map Val.int)), none, none, none]) (h' := Hc ns D m [.ins 34 [(2, .tup (rows.map rowV)), (27, .int (span rows)), (28, .int (far rows))]]) rfl ?_).trans (fin_len rfl)
  unfold b_Duel___init__
  rw [q_table]
  refine seq_if_no (not_ok (b := true) (call_eq rfl (tb _))) ?_
  refine seq_nx (e1 := startE 6 [.ref 3, tv]) (h1 := Hc ns D m [.ins 34 [(2, .tup (rows.map rowV))]]) ?_ ?_
  · unfold sFldV
    rw [hgt _ _ rfl]
    rfl
  refine seq_set (d := .lst ((parts rows).map Val.int)) (h1 := Hc ns D m [.ins 34 [(2, .tup (rows.map rowV))]]) (lst_ok (comp_ok rows (by omega) _ _ rfl rfl)) ?_
  refine seq_nx (e1 := [some (.ref 3), some tv, some (.lst ((parts rows).map Val.int)), none, none, none]) (h1 := Hc ns D m [.ins 34 [(2, .tup (rows.map rowV)), (27, .int (span rows))]]) ?_ ?_
  · have e24 : eIf (eBin oEq (eVar 2) (eLst (lDisp aNil))) (eC (.int 0)) (eItL gMax (lComp [5] (iSeq (eVar 2)) (gN 5) eYes (eCB gInt (aCons (eVar 5) aNil)))) [some (.ref 3), some tv, some (.lst ((parts rows).map Val.int)), none, none, none] (Hc ns D m [.ins 34 [(2, .tup (rows.map rowV))]]) = .ok (.int (span rows)) (Hc ns D m [.ins 34 [(2, .tup (rows.map rowV))]]) := by
      have pl := parts_len (rows := rows)
      cases hp : parts rows with
      | nil =>
        have e1 : oEq (Hc ns D m [.ins 34 [(2, .tup (rows.map rowV))]]) (.lst []) (.lst []) = some (.bl true) := eq_same _ 2 rfl
        have sp : span rows = 0 := by unfold span; rw [hp]; rfl
        rw [sp, List.map_nil]
        simp (maxSteps := 2000000) (disch := (first | assumption | with_unfolding_all rfl | omega | with_unfolding_all decide)) only [Lad.EV0, Lad.EV1, Lad.EV2, Lad.EV3, Lad.EV4, Lad.EV5, Lad.EV6, Lad.EV7, Lad.EV8, Lad.EV9, List.getElem?_cons_zero, List.getElem?_cons_succ, List.set_cons_zero, List.set_cons_succ, List.map_cons, List.map_nil, List.length_cons, List.length_nil, List.cons_append, List.nil_append, List.replicate_succ, List.replicate_zero, List.zip_cons_cons, List.zip_nil_right, List.zip_nil_left, Option.map_some, Bool.not_true, Bool.not_false, if_true, if_false, if_pos, if_neg, Nat.reduceLeDiff, Int.reduceAdd, Int.reduceSub, Int.reduceNeg, Int.reduceMul, Int.reduceLT, Int.reduceLE, Nat.reduceAdd, Nat.reduceSub, Bool.false_eq_true, reduceIte, and_self, ↓e1]
      | cons x xs =>
        have gm := gmax_ok (rows := rows) (by rw [hp]; simp)
        rw [hp] at gm pl
        have e1 : oEq (Hc ns D m [.ins 34 [(2, .tup (rows.map rowV))]]) (.lst ((x :: xs).map Val.int)) (.lst []) = some (.bl false) := eq_other _ 2 (by simp [noB]) rfl (by simp)
        have z : ((x :: xs).map Val.int).length ≤ 16777216 := by rw [List.length_map]; omega
        have cm : compL (gN 5) eYes (eCB gInt (aCons (eVar 5) aNil)) [some (.ref 3), some tv, some (.lst ((x :: xs).map Val.int)), none, none, none] ((x :: xs).map Val.int) (Hc ns D m [.ins 34 [(2, .tup (rows.map rowV))]]) = .ok ((x :: xs).map Val.int) (Hc ns D m [.ins 34 [(2, .tup (rows.map rowV))]]) := by
          rw [compL_pure (p := fun _ => true) (y := fun v => v)]
          · rw [List.filter_eq_self.mpr fun _ _ => rfl, List.map_id']
          · intro v hv
            obtain ⟨i, _, rfl⟩ := List.mem_map.mp hv
            exact ⟨_, rfl, rfl, fun _ => rfl⟩
        generalize (x :: xs).map Val.int = L at *
        simp (maxSteps := 2000000) (disch := (first | assumption | with_unfolding_all rfl | omega | with_unfolding_all decide)) only [Lad.EV0, Lad.EV1, Lad.EV2, Lad.EV3, Lad.EV4, Lad.EV5, Lad.EV6, Lad.EV7, Lad.EV8, Lad.EV9, List.getElem?_cons_zero, List.getElem?_cons_succ, List.set_cons_zero, List.set_cons_succ, List.map_cons, List.map_nil, List.length_cons, List.length_nil, List.cons_append, List.nil_append, List.replicate_succ, List.replicate_zero, List.zip_cons_cons, List.zip_nil_right, List.zip_nil_left, Option.map_some, Bool.not_true, Bool.not_false, if_true, if_false, if_pos, if_neg, Nat.reduceLeDiff, Int.reduceAdd, Int.reduceSub, Int.reduceNeg, Int.reduceMul, Int.reduceLT, Int.reduceLE, Nat.reduceAdd, Nat.reduceSub, Bool.false_eq_true, reduceIte, and_self, ↓e1, z, ↓cm, gm]
    show sFldV (Nat.beq 34) 27 (eVar 0) _ [some (.ref 3), some tv, some (.lst ((parts rows).map Val.int)), none, none, none] _ = _
    unfold sFldV
    rw [e24]
    rfl
  · have il : ∀ h, oIx h (.tup (rows.map rowV)) (.int (-1)) = some (rowV r) := fun h => by
      have q := ix_last h (rows.map rowV) (x := rowV r) (by rw [List.getLast?_map, hr]; rfl)
      exact q
    have f1 : eFld (Nat.beq 34) 27 (eVar 0) [some (.ref 3), some tv, some (.lst ((parts rows).map Val.int)), none, none, none] (Hc ns D m [.ins 34 [(2, .tup (rows.map rowV)), (27, .int (span rows))]]) = .ok (.int (span rows)) (Hc ns D m [.ins 34 [(2, .tup (rows.map rowV)), (27, .int (span rows))]]) := rfl
    have f2 : eFld (Nat.beq 34) 2 (eVar 0) [some (.ref 3), some tv, some (.lst ((parts rows).map Val.int)), none, none, none] (Hc ns D m [.ins 34 [(2, .tup (rows.map rowV)), (27, .int (span rows))]]) = .ok (.tup (rows.map rowV)) (Hc ns D m [.ins 34 [(2, .tup (rows.map rowV)), (27, .int (span rows))]]) := rfl
    have e25 : eCB gMax2 (aCons (eCB gInt (aCons (eFld (Nat.beq 34) 27 (eVar 0)) aNil)) (aCons (eCB gInt (aCons (eBin oIx (eBin oIx (eFld (Nat.beq 34) 2 (eVar 0)) (eUn oNeg (eC (.int 1)))) (eC (.int 0))) aNil)) aNil)) [some (.ref 3), some tv, some (.lst ((parts rows).map Val.int)), none, none, none] (Hc ns D m [.ins 34 [(2, .tup (rows.map rowV)), (27, .int (span rows))]]) = .ok (.int (far rows)) (Hc ns D m [.ins 34 [(2, .tup (rows.map rowV)), (27, .int (span rows))]]) := by
      simp (maxSteps := 2000000) (disch := (first | assumption | with_unfolding_all rfl | omega | with_unfolding_all decide)) only [Lad.EV0, Lad.EV1, Lad.EV2, Lad.EV3, Lad.EV4, Lad.EV5, Lad.EV6, Lad.EV7, Lad.EV8, Lad.EV9, List.getElem?_cons_zero, List.getElem?_cons_succ, List.set_cons_zero, List.set_cons_succ, List.map_cons, List.map_nil, List.length_cons, List.length_nil, List.cons_append, List.nil_append, List.replicate_succ, List.replicate_zero, List.zip_cons_cons, List.zip_nil_right, List.zip_nil_left, Option.map_some, Bool.not_true, Bool.not_false, if_true, if_false, if_pos, if_neg, Nat.reduceLeDiff, Int.reduceAdd, Int.reduceSub, Int.reduceNeg, Int.reduceMul, Int.reduceLT, Int.reduceLE, Nat.reduceAdd, Nat.reduceSub, Bool.false_eq_true, reduceIte, and_self, ↓f1, ↓f2, ↓il, Mo.rx0]
      unfold far mx
      rw [er]
    show sFldV (Nat.beq 34) 28 (eVar 0) _ [some (.ref 3), some tv, some (.lst ((parts rows).map Val.int)), none, none, none] _ = _
    unfold sFldV
    rw [e25]
    rfl
end
end K41
end
section
set_option maxRecDepth 100000
set_option maxHeartbeats 1000000
namespace K41
open PySem L2 Lad Bk Plc
section
variable {ns : List Int} {D : List Val} {m : Nat} {rows : List Row} {h : Hea}
theorem undD (dd : DOk D) (n : Nat) : undL n D = true := by
  have : ∀ xs : List Val, DOk xs → undL n xs = true := by
    intro xs
    induction xs with
    | nil => intro _; rfl
    | cons x xs ih =>
      intro ok
      obtain ⟨i, rfl, _⟩ := ok x List.mem_cons_self
      show (true && undL n xs) = true
      rw [ih fun d hd => ok d (List.mem_cons_of_mem _ hd)]; rfl
  exact this D dd
theorem shutC (dd : DOk D) (t : Hea) : shut 3 3 (Hc ns D m t) = some (Hc ns D m []) := by
  have u1 : (Ob.fro ns).und 3 = true := rfl
  have u2 : (Ob.lst D).und 3 = true := undD dd 3
  have u3 : (Ob.lst [.ref 1, .int m]).und 3 = true := rfl
  simp only [Hc, shut, u1, u2, u3, if_true, Option.map_some]
theorem fin_du (dd : DOk D) : fin (Hc ns D m []) (.ref 3) (Hc ns D m [.ins 34 [(2, .tup (rows.map rowV)), (27, .int (span rows)), (28, .int (far rows))]]) = .ok (duV rows) (Hc ns D m []) := by
  refine fin_new rfl (shutC dd _) ?_
  show (mapO (frz 39 3 _) [.tup (rows.map rowV), .int (span rows), .int (far rows)]).map (Val.obj 34 [2, 27, 28]) = _
  rw [mapO_id]
  · rfl
  · intro v hv
    simp only [List.mem_cons, List.not_mem_nil, or_false] at hv
    rcases hv with rfl | rfl | rfl
    · show (mapO (frz 38 3 _) (rows.map rowV)).map Val.tup = _
      rw [frz_rows 36]; rfl
    · rfl
    · rfl
theorem f2 (h : Hea) : insOf h (duV rows) = some (34, [(2, .tup (rows.map rowV)), (27, .int (span rows)), (28, .int (far rows))]) := rfl
theorem whole_int (d : Int) (h : Hea) : c_is_whole [.int d] h = .ok (.bl true) h := by
  unfold c_is_whole b_is_whole
  simp (maxSteps := 2000000) (disch := (first | assumption | with_unfolding_all rfl | omega | with_unfolding_all decide)) only [Lad.EV0, Lad.EV1, Lad.EV2, Lad.EV3, Lad.EV4, Lad.EV5, Lad.EV6, Lad.EV7, Lad.EV8, Lad.EV9, List.getElem?_cons_zero, List.getElem?_cons_succ, List.set_cons_zero, List.set_cons_succ, List.map_cons, List.map_nil, List.length_cons, List.length_nil, List.cons_append, List.nil_append, List.replicate_succ, List.replicate_zero, List.zip_cons_cons, List.zip_nil_right, List.zip_nil_left, Option.map_some, Bool.not_true, Bool.not_false, if_true, if_false, if_pos, if_neg, Nat.reduceLeDiff, Int.reduceAdd, Int.reduceSub, Int.reduceNeg, Int.reduceMul, Int.reduceLT, Int.reduceLE, Nat.reduceAdd, Nat.reduceSub, Bool.false_eq_true, reduceIte, and_self]
theorem get_ok (hl : rows.length ≤ 100) {d : Int} (d0 : 0 ≤ d) {r : Row} (e : (upTo rows d).getLast? = some r) (h : Hea) : c_Duel___getitem__ [duV rows, .int d] h = .ok (rowV r) h := by
  have ro := row_ok h rows d hl e
  have nl : ¬ d < 0 := by omega
  unfold c_Duel___getitem__ b_Duel___getitem__
  rw [q_row]
  unfold duV
  simp (maxSteps := 2000000) (disch := (first | assumption | with_unfolding_all rfl | omega | with_unfolding_all decide)) only [Lad.EV0, Lad.EV1, Lad.EV2, Lad.EV3, Lad.EV4, Lad.EV5, Lad.EV6, Lad.EV7, Lad.EV8, Lad.EV9, List.getElem?_cons_zero, List.getElem?_cons_succ, List.set_cons_zero, List.set_cons_succ, List.map_cons, List.map_nil, List.length_cons, List.length_nil, List.cons_append, List.nil_append, List.replicate_succ, List.replicate_zero, List.zip_cons_cons, List.zip_nil_right, List.zip_nil_left, Option.map_some, Bool.not_true, Bool.not_false, if_true, if_false, if_pos, if_neg, Nat.reduceLeDiff, Int.reduceAdd, Int.reduceSub, Int.reduceNeg, Int.reduceMul, Int.reduceLT, Int.reduceLE, Nat.reduceAdd, Nat.reduceSub, Bool.false_eq_true, reduceIte, and_self, whole_int, nl, ↓ro]
def stepV (d : Int) : Ent → Val
  | none => .non
  | some (a, b) => .tup [.int ((d + a - b).natAbs : Int), .int (a + b)]
theorem res_ok {s : Str} (hs : s ∈ ress) (h : Hea) : c_is_result [.str s] h = .ok (.bl true) h := by
  have i : Lad.inB h (.str s) k_RESULTS = some true := by
    simp only [ress, List.mem_cons, List.not_mem_nil, or_false] at hs
    rcases hs with rfl | rfl | rfl <;> kernel_rfl
  unfold c_is_result b_is_result
  simp (maxSteps := 2000000) (disch := (first | assumption | with_unfolding_all rfl | omega | with_unfolding_all decide)) only [Lad.EV0, Lad.EV1, Lad.EV2, Lad.EV3, Lad.EV4, Lad.EV5, Lad.EV6, Lad.EV7, Lad.EV8, Lad.EV9, List.getElem?_cons_zero, List.getElem?_cons_succ, List.set_cons_zero, List.set_cons_succ, List.map_cons, List.map_nil, List.length_cons, List.length_nil, List.cons_append, List.nil_append, List.replicate_succ, List.replicate_zero, List.zip_cons_cons, List.zip_nil_right, List.zip_nil_left, Option.map_some, Bool.not_true, Bool.not_false, if_true, if_false, if_pos, if_neg, Nat.reduceLeDiff, Int.reduceAdd, Int.reduceSub, Int.reduceNeg, Int.reduceMul, Int.reduceLT, Int.reduceLE, Nat.reduceAdd, Nat.reduceSub, Bool.false_eq_true, reduceIte, and_self, ↓i]
theorem icR {s : Str} (hs : s ∈ ress) : ∃ j : Int, (∀ h : Hea, Ic ["upper", "draw", "lower"] (.str s) h = .ok (.int j) h) ∧ (∀ h : Hea, oIdxL h (.lst [.str "upper", .str "draw", .str "lower"]) (.str s) = some (.int j)) ∧ ∀ (h : Hea) (r : Row), oIx h (rowV r) (.int (1 + j)) = some (entV (entOf r s)) := by
  simp only [ress, List.mem_cons, List.not_mem_nil, or_false] at hs
  rcases hs with rfl | rfl | rfl
  · exact ⟨0, fun h => rfl, fun h => rfl, fun h r => rfl⟩
  · exact ⟨1, fun h => rfl, fun h => rfl, fun h r => rfl⟩
  · exact ⟨2, fun h => rfl, fun h => rfl, fun h r => rfl⟩
theorem step_ok (hl : rows.length ≤ 100) {d : Int} (d0 : 0 ≤ d) {r : Row} (e : (upTo rows d).getLast? = some r) {s : Str} (hs : s ∈ ress) (h : Hea) : c_Duel_step [duV rows, .int d, .str s] h = .ok (stepV d (entOf r s)) h := by
  have g := get_ok hl d0 e h
  have ro := res_ok hs h
  obtain ⟨j, j1, _, j3⟩ := icR hs
  unfold c_Duel_step b_Duel_step
  cases he : entOf r s with
  | none =>
    have j4 : oIx h (rowV r) (.int (1 + j)) = some .non := (j3 h r).trans (by rw [he]; first | done | rfl)
    unfold duV at g ⊢
    simp (maxSteps := 2000000) (disch := (first | assumption | with_unfolding_all rfl | omega | with_unfolding_all decide)) only [Lad.EV0, Lad.EV1, Lad.EV2, Lad.EV3, Lad.EV4, Lad.EV5, Lad.EV6, Lad.EV7, Lad.EV8, Lad.EV9, List.getElem?_cons_zero, List.getElem?_cons_succ, List.set_cons_zero, List.set_cons_succ, List.map_cons, List.map_nil, List.length_cons, List.length_nil, List.cons_append, List.nil_append, List.replicate_succ, List.replicate_zero, List.zip_cons_cons, List.zip_nil_right, List.zip_nil_left, Option.map_some, Bool.not_true, Bool.not_false, if_true, if_false, if_pos, if_neg, Nat.reduceLeDiff, Int.reduceAdd, Int.reduceSub, Int.reduceNeg, Int.reduceMul, Int.reduceLT, Int.reduceLE, Nat.reduceAdd, Nat.reduceSub, Bool.false_eq_true, reduceIte, and_self, ↓g, ↓ro, ↓j1, ↓j4]
    rfl
  | some q =>
    obtain ⟨a, b⟩ := q
    have j4 : oIx h (rowV r) (.int (1 + j)) = some (.tup [.int a, .int b]) := (j3 h r).trans (by rw [he]; first | done | rfl)
    unfold duV at g ⊢
    simp (maxSteps := 2000000) (disch := (first | assumption | with_unfolding_all rfl | omega | with_unfolding_all decide)) only [Lad.EV0, Lad.EV1, Lad.EV2, Lad.EV3, Lad.EV4, Lad.EV5, Lad.EV6, Lad.EV7, Lad.EV8, Lad.EV9, List.getElem?_cons_zero, List.getElem?_cons_succ, List.set_cons_zero, List.set_cons_succ, List.map_cons, List.map_nil, List.length_cons, List.length_nil, List.cons_append, List.nil_append, List.replicate_succ, List.replicate_zero, List.zip_cons_cons, List.zip_nil_right, List.zip_nil_left, Option.map_some, Bool.not_true, Bool.not_false, if_true, if_false, if_pos, if_neg, Nat.reduceLeDiff, Int.reduceAdd, Int.reduceSub, Int.reduceNeg, Int.reduceMul, Int.reduceLT, Int.reduceLE, Nat.reduceAdd, Nat.reduceSub, Bool.false_eq_true, reduceIte, and_self, ↓g, ↓ro, ↓j1, ↓j4]
    rfl
theorem lrow_loop (d : Int) (h : Hea) (L : Val) : ∀ (rs : List Row) (cur : Row) (x3 : Option Val), ∃ x3', forL (gN 3) l__law_row_at_0 (rs.map rowV) [some L, some (.int d), some (rowV cur), x3] h = .nx [some L, some (.int d), some (rowV (((upTo rs d).getLast?).getD cur)), x3'] h
  | [], cur, x3 => ⟨x3, rfl⟩
  | r :: rs, cur, x3 => by
    have b : l__law_row_at_0 [some L, some (.int d), some (rowV cur), some (rowV r)] h = .nx [some L, some (.int d), some (rowV (if r.1 ≤ d then r else cur)), some (rowV r)] h := by
      unfold l__law_row_at_0
      by_cases hr : r.1 ≤ d
      · rw [if_pos hr]
        simp (maxSteps := 2000000) (disch := (first | assumption | with_unfolding_all rfl | omega | with_unfolding_all decide)) only [Lad.EV0, Lad.EV1, Lad.EV2, Lad.EV3, Lad.EV4, Lad.EV5, Lad.EV6, Lad.EV7, Lad.EV8, Lad.EV9, List.getElem?_cons_zero, List.getElem?_cons_succ, List.set_cons_zero, List.set_cons_succ, List.map_cons, List.map_nil, List.length_cons, List.length_nil, List.cons_append, List.nil_append, List.replicate_succ, List.replicate_zero, List.zip_cons_cons, List.zip_nil_right, List.zip_nil_left, Option.map_some, Bool.not_true, Bool.not_false, if_true, if_false, if_pos, if_neg, Nat.reduceLeDiff, Int.reduceAdd, Int.reduceSub, Int.reduceNeg, Int.reduceMul, Int.reduceLT, Int.reduceLE, Nat.reduceAdd, Nat.reduceSub, Bool.false_eq_true, reduceIte, and_self, Mo.rx0, hr]
      · rw [if_neg hr]
        simp (maxSteps := 2000000) (disch := (first | assumption | with_unfolding_all rfl | omega | with_unfolding_all decide)) only [Lad.EV0, Lad.EV1, Lad.EV2, Lad.EV3, Lad.EV4, Lad.EV5, Lad.EV6, Lad.EV7, Lad.EV8, Lad.EV9, List.getElem?_cons_zero, List.getElem?_cons_succ, List.set_cons_zero, List.set_cons_succ, List.map_cons, List.map_nil, List.length_cons, List.length_nil, List.cons_append, List.nil_append, List.replicate_succ, List.replicate_zero, List.zip_cons_cons, List.zip_nil_right, List.zip_nil_left, Option.map_some, Bool.not_true, Bool.not_false, if_true, if_false, if_pos, if_neg, Nat.reduceLeDiff, Int.reduceAdd, Int.reduceSub, Int.reduceNeg, Int.reduceMul, Int.reduceLT, Int.reduceLE, Nat.reduceAdd, Nat.reduceSub, Bool.false_eq_true, reduceIte, and_self, Mo.rx0, hr]
    obtain ⟨x3', e⟩ := lrow_loop d h L rs (if r.1 ≤ d then r else cur) (some (rowV r))
    refine ⟨x3', ?_⟩
    rw [List.map_cons]
    unfold forL
    simp only [gN, List.set_cons_succ, List.set_cons_zero]
    rw [b]
    show forL (gN 3) l__law_row_at_0 (rs.map rowV) _ h = _
    rw [e]
    have u : Bk.upTo (r :: rs) d = if r.1 ≤ d then r :: Bk.upTo rs d else Bk.upTo rs d := by
      unfold Bk.upTo
      rw [List.filter_cons]
      by_cases hr : r.1 ≤ d
      · simp [hr]
      · simp [hr]
    rw [u]
    by_cases hr : r.1 ≤ d
    · simp only [if_pos hr]
      cases hu : Bk.upTo rs d with
      | nil => rfl
      | cons y ys => rw [List.getLast?_cons_cons]
                     cases hz : (y :: ys).getLast? with
                     | none => simp at hz
                     | some z => rfl
    · simp only [if_neg hr]
theorem lrow_ok (t : TabOk rows) {d : Int} {r : Row} (e : (upTo rows d).getLast? = some r) (h : Hea) : c__law_row_at [.lst (rows.map rowV), .int d] h = .ok (rowV r) h := by
  have n6 := t.n6
  obtain ⟨r0, hr0, _⟩ := t.z
  have i0 : ∀ h, oIx h (.lst (rows.map rowV)) (.int 0) = some (rowV r0) := fun h => ix_0 h _ _ _ (.inl rfl) (by rw [List.getElem?_map, hr0]; rfl)
  have z : (rows.map rowV).length ≤ 16777216 := by rw [List.length_map]; omega
  obtain ⟨x3, q⟩ := lrow_loop d h (.lst (rows.map rowV)) rows r0 none
  rw [e] at q
  unfold c__law_row_at b__law_row_at
  simp (maxSteps := 2000000) (disch := (first | assumption | with_unfolding_all rfl | omega | with_unfolding_all decide)) only [Lad.EV0, Lad.EV1, Lad.EV2, Lad.EV3, Lad.EV4, Lad.EV5, Lad.EV6, Lad.EV7, Lad.EV8, Lad.EV9, List.getElem?_cons_zero, List.getElem?_cons_succ, List.set_cons_zero, List.set_cons_succ, List.map_cons, List.map_nil, List.length_cons, List.length_nil, List.cons_append, List.nil_append, List.replicate_succ, List.replicate_zero, List.zip_cons_cons, List.zip_nil_right, List.zip_nil_left, Option.map_some, Bool.not_true, Bool.not_false, if_true, if_false, if_pos, if_neg, Nat.reduceLeDiff, Int.reduceAdd, Int.reduceSub, Int.reduceNeg, Int.reduceMul, Int.reduceLT, Int.reduceLE, Nat.reduceAdd, Nat.reduceSub, Bool.false_eq_true, reduceIte, and_self, ↓i0, z, ↓q]
  rfl
theorem lstep_ok (t : TabOk rows) {d : Int} {r : Row} (e : (upTo rows d).getLast? = some r) {s : Str} (hs : s ∈ ress) (h : Hea) : c__law_step [.lst (rows.map rowV), .int d, .str s] h = .ok (match stepV d (entOf r s) with | .tup xs => .lst xs | v => v) h := by
  have g := lrow_ok t e h
  obtain ⟨j, _, j1, j3⟩ := icR hs
  unfold c__law_step b__law_step
  cases he : entOf r s with
  | none =>
    have j4 : oIx h (rowV r) (.int (1 + j)) = some .non := (j3 h r).trans (by rw [he]; first | done | rfl)
    simp (maxSteps := 2000000) (disch := (first | assumption | with_unfolding_all rfl | omega | with_unfolding_all decide)) only [Lad.EV0, Lad.EV1, Lad.EV2, Lad.EV3, Lad.EV4, Lad.EV5, Lad.EV6, Lad.EV7, Lad.EV8, Lad.EV9, List.getElem?_cons_zero, List.getElem?_cons_succ, List.set_cons_zero, List.set_cons_succ, List.map_cons, List.map_nil, List.length_cons, List.length_nil, List.cons_append, List.nil_append, List.replicate_succ, List.replicate_zero, List.zip_cons_cons, List.zip_nil_right, List.zip_nil_left, Option.map_some, Bool.not_true, Bool.not_false, if_true, if_false, if_pos, if_neg, Nat.reduceLeDiff, Int.reduceAdd, Int.reduceSub, Int.reduceNeg, Int.reduceMul, Int.reduceLT, Int.reduceLE, Nat.reduceAdd, Nat.reduceSub, Bool.false_eq_true, reduceIte, and_self, ↓g, ↓j1, ↓j4, Mo.isl]
    rfl
  | some q =>
    obtain ⟨a, b⟩ := q
    have j4 : oIx h (rowV r) (.int (1 + j)) = some (.tup [.int a, .int b]) := (j3 h r).trans (by rw [he]; first | done | rfl)
    simp (maxSteps := 2000000) (disch := (first | assumption | with_unfolding_all rfl | omega | with_unfolding_all decide)) only [Lad.EV0, Lad.EV1, Lad.EV2, Lad.EV3, Lad.EV4, Lad.EV5, Lad.EV6, Lad.EV7, Lad.EV8, Lad.EV9, List.getElem?_cons_zero, List.getElem?_cons_succ, List.set_cons_zero, List.set_cons_succ, List.map_cons, List.map_nil, List.length_cons, List.length_nil, List.cons_append, List.nil_append, List.replicate_succ, List.replicate_zero, List.zip_cons_cons, List.zip_nil_right, List.zip_nil_left, Option.map_some, Bool.not_true, Bool.not_false, if_true, if_false, if_pos, if_neg, Nat.reduceLeDiff, Int.reduceAdd, Int.reduceSub, Int.reduceNeg, Int.reduceMul, Int.reduceLT, Int.reduceLE, Nat.reduceAdd, Nat.reduceSub, Bool.false_eq_true, reduceIte, and_self, ↓g, ↓j1, ↓j4, Mo.isl]
    rfl
end
end K41
end
section
set_option maxRecDepth 100000
set_option maxHeartbeats 1000000
namespace Lad
open PySem L2
section
variable {f g : CF} {p : En → Hea → SRes} {cb : CB} {k k1 : Nat} {e e1 ce ce1 : En} {h h1 : Hea} {r : CRes} {c : Nat} {d : Val}
theorem cseq_nx (a : f cb k e ce h = .nx k1 e1 ce1 h1) (b : g cb k1 e1 ce1 h1 = r) : cSeq f g cb k e ce h = r := by
  unfold cSeq
  rw [a]
  exact b
theorem cseq_exc (a : f cb k e ce h = .exc c d ce1 h1) : cSeq f g cb k e ce h = .exc c d ce1 h1 := by
  unfold cSeq
  rw [a]
theorem cseq_nil (a : f cb k e ce h = r) : cSeq f cNil cb k e ce h = r := by
  unfold cSeq
  rw [a]
  cases r <;> rfl
theorem cpl_nx (a : p e h = .nx e1 h1) : cPl p cb k e ce h = .nx k e1 ce h1 := by
  unfold cPl
  rw [a]
theorem cpl_exc (a : p e h = .exc c d e1 h1) : cPl p cb k e ce h = .exc c d ce h1 := by
  unfold cPl
  rw [a]
theorem cyield_nx {t : En → Hea → Res Val} {v : Val} (hk : k < 16777216) (a : t e h = .ok v h1) {ce2 : En} {h2 : Hea} (b : cb v ce h1 = .nx ce2 h2) : cYield t cb k e ce h = .nx (k + 1) e ce2 h2 := by
  unfold cYield
  rw [if_pos hk, a]
  show outC k e (cb v ce h1) = _
  rw [b]
  rfl
theorem cforL_cons {b : Val → En → Option En} {v : Val} {vs : List Val} {e2 ce2 : En} {h2 : Hea} (a1 : b v e = some e1) (a2 : f cb k e1 ce h = .nx k1 e2 ce2 h2) : cforL b f cb (v :: vs) k e ce h = cforL b f cb vs k1 e2 ce2 h2 := by
  conv => lhs; unfold cforL
  rw [a1]
  dsimp only
  rw [a2]
theorem cforL_exc {b : Val → En → Option En} {v : Val} {vs : List Val} (a1 : b v e = some e1) (a2 : f cb k e1 ce h = .exc c d ce1 h1) : cforL b f cb (v :: vs) k e ce h = .exc c d ce1 h1 := by
  unfold cforL
  rw [a1]
  dsimp only
  rw [a2]
theorem cfor_eq {src : En → Hea → Res Src} {b : Val → En → Option En} {xs : List Val} (a : src e h = .ok (srcFix xs) h1) : cFor src b f cb k e ce h = cforL b f cb xs k e ce h1 := by
  unfold cFor
  rw [a]
  rfl
theorem forC_eq {okc : Nat → Bool} {np : Nat} {cf : CGn} {gs : En → Hea → Res (List Val)} {b : Val → En → Option En} {body : En → Hea → SRes} {ds : List Val} (a : gs e h = .ok ds h1) (l : ds.length = np) : sForC okc np cf gs b body e h = finC okc (cf (cbOf b body) ds e h1) := by
  unfold sForC
  rw [a]
  show (if ds.length = np then _ else _) = _
  rw [if_pos l]
theorem runCo_eq {np ns : Nat} {body : CF} {ds : List Val} (l : ds.length = np) : runCo np ns body cb ds ce h = body cb 0 (startE ns ds) ce h := by
  unfold runCo
  rw [if_pos l]
end
end Lad
end
section
set_option maxRecDepth 100000
set_option maxHeartbeats 1000000
namespace K41
open PySem L2 Lad Bk Plc
def pv (q : Int × Int) : Val := .tup [.int q.1, .int q.2]
/-- what a game at a difference tells -/
def tld (rows : List Row) (d : Int) (v : Val) : Option (Int × Int) := match v with
  | .str s => if s ∈ ress then (match (upTo rows d).getLast? with
    | some r => (match entOf r s with
      | some (a, b) => some (((d + a - b).natAbs : Int), a + b)
      | none => none)
    | none => none) else none
  | _ => none
def runD (rows : List Row) : Int → Int → Nat → List Val → List (Int × Int) × Option Nat
  | _, _, _, [] => ([], none)
  | d, t, i, v :: vs => match tld rows d v with
    | none => ([], some i)
    | some (d', p) => ((d', t + p) :: (runD rows d' (t + p) (i + 1) vs).1, (runD rows d' (t + p) (i + 1) vs).2)
def Odd (v : Val) : Prop := v = .non ∨ v = .str "Upper" ∨ v = .int 5 ∨ v = .lst [.str "draw"] ∨ v = .str "one" ∨ v = .tup [.str "lower"]
def Itm (v : Val) : Prop := (∃ s : Str, s ∈ ress ∧ v = .str s) ∨ Odd v
theorem odd_no {v : Val} (o : Odd v) (h : Hea) : c_is_result [v] h = .ok (.bl false) h := by
  have i1 : Lad.inB h (.str "Upper") k_RESULTS = some false := by kernel_rfl
  have i2 : Lad.inB h (.str "one") k_RESULTS = some false := by kernel_rfl
  unfold c_is_result b_is_result
  rcases o with rfl | rfl | rfl | rfl | rfl | rfl
  · simp (maxSteps := 2000000) (disch := (first | assumption | with_unfolding_all rfl | omega | with_unfolding_all decide)) only [Lad.EV0, Lad.EV1, Lad.EV2, Lad.EV3, Lad.EV4, Lad.EV5, Lad.EV6, Lad.EV7, Lad.EV8, Lad.EV9, List.getElem?_cons_zero, List.getElem?_cons_succ, List.set_cons_zero, List.set_cons_succ, List.map_cons, List.map_nil, List.length_cons, List.length_nil, List.cons_append, List.nil_append, List.replicate_succ, List.replicate_zero, List.zip_cons_cons, List.zip_nil_right, List.zip_nil_left, Option.map_some, Bool.not_true, Bool.not_false, if_true, if_false, if_pos, if_neg, Nat.reduceLeDiff, Int.reduceAdd, Int.reduceSub, Int.reduceNeg, Int.reduceMul, Int.reduceLT, Int.reduceLE, Nat.reduceAdd, Nat.reduceSub, Bool.false_eq_true, reduceIte, and_self]
  · simp (maxSteps := 2000000) (disch := (first | assumption | with_unfolding_all rfl | omega | with_unfolding_all decide)) only [Lad.EV0, Lad.EV1, Lad.EV2, Lad.EV3, Lad.EV4, Lad.EV5, Lad.EV6, Lad.EV7, Lad.EV8, Lad.EV9, List.getElem?_cons_zero, List.getElem?_cons_succ, List.set_cons_zero, List.set_cons_succ, List.map_cons, List.map_nil, List.length_cons, List.length_nil, List.cons_append, List.nil_append, List.replicate_succ, List.replicate_zero, List.zip_cons_cons, List.zip_nil_right, List.zip_nil_left, Option.map_some, Bool.not_true, Bool.not_false, if_true, if_false, if_pos, if_neg, Nat.reduceLeDiff, Int.reduceAdd, Int.reduceSub, Int.reduceNeg, Int.reduceMul, Int.reduceLT, Int.reduceLE, Nat.reduceAdd, Nat.reduceSub, Bool.false_eq_true, reduceIte, and_self, ↓i1]
  · simp (maxSteps := 2000000) (disch := (first | assumption | with_unfolding_all rfl | omega | with_unfolding_all decide)) only [Lad.EV0, Lad.EV1, Lad.EV2, Lad.EV3, Lad.EV4, Lad.EV5, Lad.EV6, Lad.EV7, Lad.EV8, Lad.EV9, List.getElem?_cons_zero, List.getElem?_cons_succ, List.set_cons_zero, List.set_cons_succ, List.map_cons, List.map_nil, List.length_cons, List.length_nil, List.cons_append, List.nil_append, List.replicate_succ, List.replicate_zero, List.zip_cons_cons, List.zip_nil_right, List.zip_nil_left, Option.map_some, Bool.not_true, Bool.not_false, if_true, if_false, if_pos, if_neg, Nat.reduceLeDiff, Int.reduceAdd, Int.reduceSub, Int.reduceNeg, Int.reduceMul, Int.reduceLT, Int.reduceLE, Nat.reduceAdd, Nat.reduceSub, Bool.false_eq_true, reduceIte, and_self]
  · simp (maxSteps := 2000000) (disch := (first | assumption | with_unfolding_all rfl | omega | with_unfolding_all decide)) only [Lad.EV0, Lad.EV1, Lad.EV2, Lad.EV3, Lad.EV4, Lad.EV5, Lad.EV6, Lad.EV7, Lad.EV8, Lad.EV9, List.getElem?_cons_zero, List.getElem?_cons_succ, List.set_cons_zero, List.set_cons_succ, List.map_cons, List.map_nil, List.length_cons, List.length_nil, List.cons_append, List.nil_append, List.replicate_succ, List.replicate_zero, List.zip_cons_cons, List.zip_nil_right, List.zip_nil_left, Option.map_some, Bool.not_true, Bool.not_false, if_true, if_false, if_pos, if_neg, Nat.reduceLeDiff, Int.reduceAdd, Int.reduceSub, Int.reduceNeg, Int.reduceMul, Int.reduceLT, Int.reduceLE, Nat.reduceAdd, Nat.reduceSub, Bool.false_eq_true, reduceIte, and_self]
  · simp (maxSteps := 2000000) (disch := (first | assumption | with_unfolding_all rfl | omega | with_unfolding_all decide)) only [Lad.EV0, Lad.EV1, Lad.EV2, Lad.EV3, Lad.EV4, Lad.EV5, Lad.EV6, Lad.EV7, Lad.EV8, Lad.EV9, List.getElem?_cons_zero, List.getElem?_cons_succ, List.set_cons_zero, List.set_cons_succ, List.map_cons, List.map_nil, List.length_cons, List.length_nil, List.cons_append, List.nil_append, List.replicate_succ, List.replicate_zero, List.zip_cons_cons, List.zip_nil_right, List.zip_nil_left, Option.map_some, Bool.not_true, Bool.not_false, if_true, if_false, if_pos, if_neg, Nat.reduceLeDiff, Int.reduceAdd, Int.reduceSub, Int.reduceNeg, Int.reduceMul, Int.reduceLT, Int.reduceLE, Nat.reduceAdd, Nat.reduceSub, Bool.false_eq_true, reduceIte, and_self, ↓i2]
  · simp (maxSteps := 2000000) (disch := (first | assumption | with_unfolding_all rfl | omega | with_unfolding_all decide)) only [Lad.EV0, Lad.EV1, Lad.EV2, Lad.EV3, Lad.EV4, Lad.EV5, Lad.EV6, Lad.EV7, Lad.EV8, Lad.EV9, List.getElem?_cons_zero, List.getElem?_cons_succ, List.set_cons_zero, List.set_cons_succ, List.map_cons, List.map_nil, List.length_cons, List.length_nil, List.cons_append, List.nil_append, List.replicate_succ, List.replicate_zero, List.zip_cons_cons, List.zip_nil_right, List.zip_nil_left, Option.map_some, Bool.not_true, Bool.not_false, if_true, if_false, if_pos, if_neg, Nat.reduceLeDiff, Int.reduceAdd, Int.reduceSub, Int.reduceNeg, Int.reduceMul, Int.reduceLT, Int.reduceLE, Nat.reduceAdd, Nat.reduceSub, Bool.false_eq_true, reduceIte, and_self]
theorem odd_tld {v : Val} (o : Odd v) (rows : List Row) (d : Int) : tld rows d v = none := by
  rcases o with rfl | rfl | rfl | rfl | rfl | rfl <;> first | rfl | (unfold tld; rw [if_neg (by decide)])
theorem tld_nn {rows : List Row} {d : Int} {v : Val} {q : Int × Int} (e : tld rows d v = some q) : 0 ≤ q.1 := by
  unfold tld at e
  split at e
  · split at e
    · split at e
      · split at e
        · cases e; exact Int.natCast_nonneg _
        · cases e
      · cases e
    · cases e
  · cases e
section
variable {rows : List Row} {f : Int} {xs tp : Val}
abbrev E9 (rows : List Row) (f : Int) (xs tp : Val) (d t : Int) (x6 x7 x8 : Option Val) : En := [some (duV rows), some (.int f), some xs, some tp, some (.int d), some (.int t), x6, x7, x8]
/-- one result -/
theorem turn (tb : TabOk rows) {d : Int} (d0 : 0 ≤ d) (t : Int) (i : Nat) {v : Val} (iv : Itm v) (x8 : Option Val) (cb : CB) (k : Nat) (hk : k < 16777216) (ce : En) (h : Hea) :
    (tld rows d v = none → l_Duel_play_C_0 cb k (E9 rows f xs tp d t (some (.int i)) (some v) x8) ce h = .exc 4 (.int i) ce h) ∧
    (∀ q, tld rows d v = some q → ∀ ce2 h2, cb (pv (q.1, t + q.2)) ce h = .nx ce2 h2 → l_Duel_play_C_0 cb k (E9 rows f xs tp d t (some (.int i)) (some v) x8) ce h = .nx (k + 1) (E9 rows f xs tp q.1 (t + q.2) (some (.int i)) (some v) (some (pv q))) ce2 h2) := by
  have n6 := tb.n6
  obtain ⟨r, _, er⟩ := Sp.row_there tb d0
  have s8 : ∀ (w : Val), (sSet 8 (eIf (eCall c_is_result (aCons (eVar 7) aNil)) (eMeth 34 26 c_Duel_step (eVar 0) (aCons (eVar 4) (aCons (eVar 7) aNil))) (eC .non))) (E9 rows f xs tp d t (some (.int i)) (some v) x8) h = .nx (E9 rows f xs tp d t (some (.int i)) (some v) (some w)) h →
      (w = .non → l_Duel_play_C_0 cb k (E9 rows f xs tp d t (some (.int i)) (some v) x8) ce h = .exc 4 (.int i) ce h) ∧
      (∀ q, w = pv q → ∀ ce2 h2, cb (pv (q.1, t + q.2)) ce h = .nx ce2 h2 → l_Duel_play_C_0 cb k (E9 rows f xs tp d t (some (.int i)) (some v) x8) ce h = .nx (k + 1) (E9 rows f xs tp q.1 (t + q.2) (some (.int i)) (some v) (some (pv q))) ce2 h2) := by
    intro w e
    constructor
    · rintro rfl
      exact cseq_nx (cpl_nx e) (cseq_exc (cpl_exc (e1 := E9 rows f xs tp d t (some (.int i)) (some v) (some .non)) rfl))
    · rintro q rfl ce2 h2 hc
      refine cseq_nx (cpl_nx e) (cseq_nx (cpl_nx (e1 := E9 rows f xs tp d t (some (.int i)) (some v) (some (pv q))) (h1 := h) rfl) (cseq_nx (cpl_nx (e1 := E9 rows f xs tp q.1 (t + q.2) (some (.int i)) (some v) (some (pv q))) (h1 := h) rfl) (cseq_nil ?_)))
      exact cyield_nx (v := pv (q.1, t + q.2)) hk rfl hc
  rcases iv with ⟨s, hs, rfl⟩ | o
  · have ro := res_ok hs h
    have st := step_ok (rows := rows) (by omega) d0 er hs h
    have e : (sSet 8 (eIf (eCall c_is_result (aCons (eVar 7) aNil)) (eMeth 34 26 c_Duel_step (eVar 0) (aCons (eVar 4) (aCons (eVar 7) aNil))) (eC .non))) (E9 rows f xs tp d t (some (.int i)) (some (.str s)) x8) h = .nx (E9 rows f xs tp d t (some (.int i)) (some (.str s)) (some (stepV d (entOf r s)))) h := by
      generalize stepV d (entOf r s) = w at *
      unfold E9
      unfold duV at st ⊢
      simp (maxSteps := 2000000) (disch := (first | assumption | with_unfolding_all rfl | omega | with_unfolding_all decide)) only [Lad.EV0, Lad.EV1, Lad.EV2, Lad.EV3, Lad.EV4, Lad.EV5, Lad.EV6, Lad.EV7, Lad.EV8, Lad.EV9, List.getElem?_cons_zero, List.getElem?_cons_succ, List.set_cons_zero, List.set_cons_succ, List.map_cons, List.map_nil, List.length_cons, List.length_nil, List.cons_append, List.nil_append, List.replicate_succ, List.replicate_zero, List.zip_cons_cons, List.zip_nil_right, List.zip_nil_left, Option.map_some, Bool.not_true, Bool.not_false, if_true, if_false, if_pos, if_neg, Nat.reduceLeDiff, Int.reduceAdd, Int.reduceSub, Int.reduceNeg, Int.reduceMul, Int.reduceLT, Int.reduceLE, Nat.reduceAdd, Nat.reduceSub, Bool.false_eq_true, reduceIte, and_self, ↓ro, ↓st]
    obtain ⟨a, b⟩ := s8 _ e
    have tl : tld rows d (.str s) = match entOf r s with | some (a, b) => some (((d + a - b).natAbs : Int), a + b) | none => none := by
      unfold tld
      dsimp only
      (rw [if_pos hs, er]) <;> rfl
    constructor
    · intro z
      rw [tl] at z
      cases he : entOf r s with
      | none => rw [he] at a; exact a rfl
      | some q => rw [he] at z; cases z
    · intro q z
      rw [tl] at z
      cases he : entOf r s with
      | none => rw [he] at z; cases z
      | some q' =>
        rw [he] at z b
        cases z
        exact b _ rfl
  · have ro := odd_no o h
    have e : (sSet 8 (eIf (eCall c_is_result (aCons (eVar 7) aNil)) (eMeth 34 26 c_Duel_step (eVar 0) (aCons (eVar 4) (aCons (eVar 7) aNil))) (eC .non))) (E9 rows f xs tp d t (some (.int i)) (some v) x8) h = .nx (E9 rows f xs tp d t (some (.int i)) (some v) (some .non)) h := by
      unfold E9
      simp (maxSteps := 2000000) (disch := (first | assumption | with_unfolding_all rfl | omega | with_unfolding_all decide)) only [Lad.EV0, Lad.EV1, Lad.EV2, Lad.EV3, Lad.EV4, Lad.EV5, Lad.EV6, Lad.EV7, Lad.EV8, Lad.EV9, List.getElem?_cons_zero, List.getElem?_cons_succ, List.set_cons_zero, List.set_cons_succ, List.map_cons, List.map_nil, List.length_cons, List.length_nil, List.cons_append, List.nil_append, List.replicate_succ, List.replicate_zero, List.zip_cons_cons, List.zip_nil_right, List.zip_nil_left, Option.map_some, Bool.not_true, Bool.not_false, if_true, if_false, if_pos, if_neg, Nat.reduceLeDiff, Int.reduceAdd, Int.reduceSub, Int.reduceNeg, Int.reduceMul, Int.reduceLT, Int.reduceLE, Nat.reduceAdd, Nat.reduceSub, Bool.false_eq_true, reduceIte, and_self, ↓ro]
    obtain ⟨a, b⟩ := s8 _ e
    refine ⟨fun _ => a rfl, fun q z => ?_⟩
    rw [odd_tld o] at z
    cases z
/-- a consumer that keeps what it hears -/
def Hears (cb : CB) (CE : Option Val → En) (G : List Val → Hea) : Prop := ∀ (acc : List Val) (x : Option Val) (q : Int × Int), acc.length < 1000 → cb (pv q) (CE x) (G acc) = .nx (CE (some (pv q))) (G (acc ++ [pv q]))
theorem loop {cb : CB} {CE : Option Val → En} {G : List Val → Hea} (hc : Hears cb CE G) (tb : TabOk rows) : ∀ (vs : List Val) (i : Nat) (d t : Int) (k : Nat) (acc : List Val) (x x6 x7 x8 : Option Val), (∀ v ∈ vs, Itm v) → 0 ≤ d → k + vs.length < 1000 → acc.length + vs.length < 1000 →
    ∃ x' e', cforL (gT [6, 7]) l_Duel_play_C_0 cb (enumFrom i vs) k (E9 rows f xs tp d t x6 x7 x8) (CE x) (G acc) = match (runD rows d t i vs).2 with
      | none => .nx (k + vs.length) e' (CE x') (G (acc ++ (runD rows d t i vs).1.map pv))
      | some w => .exc 4 (.int w) (CE x') (G (acc ++ (runD rows d t i vs).1.map pv))
  | [], i, d, t, k, acc, x, x6, x7, x8, _, _, _, _ => ⟨x, _, by
    show CRes.nx k _ (CE x) (G acc) = .nx (k + 0) _ (CE x) (G (acc ++ []))
    rw [List.append_nil]
    rfl⟩
  | v :: vs, i, d, t, k, acc, x, x6, x7, x8, iv, d0, hk, ha => by
    rw [List.length_cons] at hk ha
    obtain ⟨t1, t2⟩ := turn (f := f) (xs := xs) (tp := tp) tb d0 t i (iv v List.mem_cons_self) x8 cb k (by omega) (CE x) (G acc)
    unfold runD
    cases ht : tld rows d v with
    | none =>
      refine ⟨x, [], (cforL_exc (v := .tup [.int i, v]) (e1 := E9 rows f xs tp d t (some (.int i)) (some v) x8) rfl (t1 ht)).trans ?_⟩
      exact (by show CRes.exc 4 (.int i) (CE x) (G acc) = .exc 4 (.int i) (CE x) (G (acc ++ [])); rw [List.append_nil])
    | some q =>
      have t3 := t2 q ht _ _ (hc acc x (q.1, t + q.2) (by omega))
      obtain ⟨x', e', lp⟩ := loop hc tb vs (i + 1) q.1 (t + q.2) (k + 1) (acc ++ [pv (q.1, t + q.2)]) (some (pv (q.1, t + q.2))) (some (.int i)) (some v) (some (pv q)) (fun w hw => iv w (List.mem_cons_of_mem _ hw)) (tld_nn ht) (by omega) (by rw [List.length_append, List.length_singleton]; omega)
      refine ⟨x', e', ?_⟩
      refine (cforL_cons (v := .tup [.int i, v]) (e1 := E9 rows f xs tp d t (some (.int i)) (some v) x8) rfl t3).trans (lp.trans ?_)
      dsimp only
      rw [List.append_assoc, List.length_cons, show k + 1 + vs.length = k + (vs.length + 1) by omega]
      rfl
end
end K41
end
section
set_option maxRecDepth 10000
set_option maxHeartbeats 1000000
namespace Lad
open PySem L2
end Lad
end
section
set_option maxRecDepth 100000
set_option maxHeartbeats 1000000
namespace Wy
open PySem L2 Lad Bk
theorem frz_data (n : Nat) (h : Hea) : ∀ (k m : Nat) (d : Val), k < m → noB k d = true → frz m n h d = some d
  | _, 0, _, l, _ => absurd l (by omega)
  | k, m + 1, .non, _, _ => rfl
  | k, m + 1, .int _, _, _ => rfl
  | k, m + 1, .str _, _, _ => rfl
  | 0, m + 1, .tup _, _, w => by cases w
  | 0, m + 1, .lst _, _, w => by cases w
  | k + 1, m + 1, .tup xs, l, w => by
    show (mapO (frz m n h) xs).map Val.tup = _
    rw [mapO_id fun v hv => frz_data n h k m v (by omega) (List.all_eq_true.mp w v hv)]; rfl
  | k + 1, m + 1, .lst xs, l, w => by
    show (mapO (frz m n h) xs).map Val.lst = _
    rw [mapO_id fun v hv => frz_data n h k m v (by omega) (List.all_eq_true.mp w v hv)]; rfl
  | 0, m + 1, .bl _, _, w => by cases w
  | 0, m + 1, .ref _, _, w => by cases w
  | 0, m + 1, .dic .., _, w => by cases w
  | 0, m + 1, .obj .., _, w => by cases w
  | 0, m + 1, .exn .., _, w => by cases w
  | k + 1, m + 1, .bl _, _, w => by cases w
  | k + 1, m + 1, .ref _, _, w => by cases w
  | k + 1, m + 1, .dic .., _, w => by cases w
  | k + 1, m + 1, .obj .., _, w => by cases w
  | k + 1, m + 1, .exn .., _, w => by cases w
end Wy
end
section
set_option maxRecDepth 100000
set_option maxHeartbeats 1000000
namespace Wy
open PySem L2 Lad Bk
end Wy
end
section
set_option maxRecDepth 100000
set_option maxHeartbeats 1000000
namespace Wy
open PySem L2 Lad Bk
end Wy
end
section
set_option maxRecDepth 100000
set_option maxHeartbeats 1000000
namespace B6
open PySem L2 Lad Bk
end B6
end
section
set_option maxRecDepth 100000
set_option maxHeartbeats 1000000
namespace Wy
open PySem L2 Lad Bk B6
end Wy
end
section
set_option maxRecDepth 100000
set_option maxHeartbeats 1000000
namespace Cl
open PySem L2 Lad Bk Wy
mutual
theorem und_mono {n m : Nat} (l : n ≤ m) : ∀ v : Val, v.und n = true → v.und m = true
  | .tup xs, e => undL_mono l xs e
  | .lst xs, e => undL_mono l xs e
  | .dic _ _ vs, e => undL_mono l vs e
  | .obj _ _ vs, e => undL_mono l vs e
  | .ref i, e => by
    have e : Nat.blt i n = true := e
    show Nat.blt i m = true
    have := Nat.le_of_ble_eq_true e
    exact Nat.ble_eq_true_of_le (Nat.le_trans this l)
  | .exn _ d, e => und_mono l d e
  | .non, _ => rfl
  | .bl _, _ => rfl
  | .int _, _ => rfl
  | .str _, _ => rfl
theorem undL_mono {n m : Nat} (l : n ≤ m) : ∀ xs : List Val, undL n xs = true → undL m xs = true
  | [], _ => rfl
  | x :: xs, e => by
    have e : (x.und n && undL n xs) = true := e
    rw [Bool.and_eq_true] at e
    show (x.und m && undL m xs) = true
    rw [und_mono l x e.1, undL_mono l xs e.2]; rfl
end
theorem undKv_mono {n m : Nat} (l : n ≤ m) : ∀ xs : List (Val × Val), undKv n xs = true → undKv m xs = true
  | [], _ => rfl
  | (k, x) :: xs, e => by
    have e : (x.und n && undKv n xs) = true := e
    rw [Bool.and_eq_true] at e
    show (x.und m && undKv m xs) = true
    rw [und_mono l x e.1, undKv_mono l xs e.2]; rfl
theorem undFs_mono {n m : Nat} (l : n ≤ m) : ∀ xs : List (Nat × Val), undFs n xs = true → undFs m xs = true
  | [], _ => rfl
  | (k, x) :: xs, e => by
    have e : (x.und n && undFs n xs) = true := e
    rw [Bool.and_eq_true] at e
    show (x.und m && undFs m xs) = true
    rw [und_mono l x e.1, undFs_mono l xs e.2]; rfl
theorem ob_mono {n m : Nat} (l : n ≤ m) : ∀ o : Ob, o.und n = true → o.und m = true
  | .lst xs, e => undL_mono l xs e
  | .fro _, _ => rfl
  | .dcK kvs, e => undKv_mono l kvs e
  | .dcT kvs, e => undKv_mono l kvs e
  | .dcL kvs, e => undKv_mono l kvs e
  | .dcM kvs, e => undKv_mono l kvs e
  | .ins _ fs, e => undFs_mono l fs e
/-- the things of a heap name one another alone -/
def Cs (h : Hea) : Prop := ∀ o ∈ h, o.und h.length = true
theorem shut_of {n : Nat} : ∀ (h t : Hea), (∀ o ∈ h, o.und n = true) → shut n h.length (h ++ t) = some h
  | [], t, _ => by cases t <;> rfl
  | o :: h, t, w => by
    show (if o.und n = true then (shut n h.length (h ++ t)).map (o :: ·) else none) = _
    rw [if_pos (w o List.mem_cons_self), shut_of h t fun x hx => w x (List.mem_cons_of_mem _ hx)]
    rfl
theorem Cs.shut {h : Hea} (c : Cs h) (t : Hea) : shut h.length h.length (h ++ t) = some h := shut_of h t c
theorem Cs.app {h t : Hea} (c : Cs h) (w : ∀ o ∈ t, o.und (h.length + t.length) = true) : Cs (h ++ t) := fun o ho => by
  rw [List.length_append]
  rcases List.mem_append.mp ho with m | m
  · exact ob_mono (Nat.le_add_right _ _) o (c o m)
  · exact w o m
theorem of_shut {n : Nat} : ∀ {h g : Hea} {k : Nat}, Lad.shut n k h = some g → ∀ o ∈ g, o.und n = true
  | _, g, 0, e, o, m => by cases e; cases m
  | [], g, k + 1, e, o, m => by cases e
  | x :: h, g, k + 1, e, o, m => by
    have e : (if x.und n = true then (Lad.shut n k h).map (x :: ·) else none) = some g := e
    split at e
    · rename_i hx
      cases q : Lad.shut n k h with
      | none => rw [q] at e; cases e
      | some g' =>
        rw [q] at e
        cases e
        rcases List.mem_cons.mp m with rfl | m
        · exact hx
        · exact of_shut q o m
    · cases e
theorem cs_of {h : Hea} {t : Hea} (e : Lad.shut h.length h.length (h ++ t) = some h) : Cs h := fun o m => of_shut e o m
theorem lst_und {n : Nat} {xs : List Val} (w : ∀ v ∈ xs, v.und n = true) : (Ob.lst xs).und n = true := by
  show undL n xs = true
  induction xs with
  | nil => rfl
  | cons x xs ih =>
    show (x.und n && undL n xs) = true
    rw [w x List.mem_cons_self, ih fun v hv => w v (List.mem_cons_of_mem _ hv)]; rfl
theorem nbeq {h : Hea} {a : Ob} {t : Hea} : Nat.beq (h ++ a :: t).length h.length = false := by
  rw [List.length_append]
  cases q : Nat.beq (h.length + (a :: t).length) h.length with
  | false => rfl
  | true => exact absurd (Nat.eq_of_beq_eq_true q) (by simp)
/-- the end of a call at a closed heap -/
theorem Cs.fin {h : Hea} (c : Cs h) (a : Ob) (t : Hea) {d d' : Val} (f : frz 40 h.length (h ++ a :: t) d = some d') : Lad.fin h d (h ++ a :: t) = .ok d' h := fin_new nbeq (c.shut _) f
theorem at_0 (h : Hea) (a : Ob) (t : Hea) : (h ++ a :: t)[h.length]? = some a := by simp
theorem set_0 (h : Hea) (a b : Ob) (t : Hea) : (h ++ a :: t).set h.length b = h ++ b :: t := by simp
theorem at_1 (h : Hea) (a : Ob) (ls : Hea) (b : Ob) (t : Hea) : (h ++ a :: (ls ++ b :: t))[h.length + 1 + ls.length]? = some b := by
  rw [List.getElem?_append_right (by omega), show h.length + 1 + ls.length - h.length = ls.length + 1 by omega, List.getElem?_cons_succ, List.getElem?_append_right (Nat.le_refl _), Nat.sub_self]; rfl
theorem set_1 (h : Hea) (a : Ob) (ls : Hea) (b c : Ob) (t : Hea) : (h ++ a :: (ls ++ b :: t)).set (h.length + 1 + ls.length) c = h ++ a :: (ls ++ c :: t) := by
  rw [List.set_append_right _ _ (by omega), show h.length + 1 + ls.length - h.length = ls.length + 1 by omega, List.set_cons_succ, List.set_append_right _ _ (Nat.le_refl _), Nat.sub_self]; rfl
theorem frz_ref {k n i : Nat} {h : Hea} {xs : List Val} (hi : n ≤ i) (e : h[i]? = some (.lst xs)) : frz (k + 1) n h (.ref i) = (mapO (frz k n h) xs).map Val.lst := by
  have bl : Nat.blt i n = false := by
    cases q : Nat.blt i n with
    | false => rfl
    | true => exact absurd (Nat.le_of_ble_eq_true q) (by omega)
  unfold frz
  rw [if_neg (by rw [bl]; decide), e]
theorem mapO_noB {k m n : Nat} {h : Hea} (l : k < m) {xs : List Val} (w : ∀ v ∈ xs, noB k v = true) : mapO (frz m n h) xs = some xs := mapO_id fun v hv => frz_data _ _ k m v l (w v hv)
theorem for_cons {b : Val → En → Option En} {body : En → Hea → SRes} {v : Val} {vs : List Val} {e e1 e2 : En} {h h2 : Hea} (q : b v e = some e1) (c : body e1 h = .nx e2 h2) : forL b body (v :: vs) e h = forL b body vs e2 h2 := by
  conv => lhs; unfold forL
  rw [q]
  show (match body e1 h with | .nx e h => _ | .ct e h => _ | .bk e h => _ | r => r) = _
  rw [c]
end Cl
end
section
set_option maxRecDepth 100000
set_option maxHeartbeats 1000000
namespace K41
open PySem L2 Lad Bk Plc Cl
section
variable {rows : List Row}
theorem cf_ok {f : Int} (f0 : 0 ≤ f) (f1 : f < 24) (h : Hea) : c_Duel_check_first [duV rows, .int f] h = .ok .non h := by
  have i1 := Bk.isi_ok h f 0 23
  rw [decide_eq_true ⟨f0, by omega⟩] at i1
  have k : k_MOST_RATING = .int 23 := rfl
  unfold c_Duel_check_first b_Duel_check_first
  rw [q_int, k]
  unfold duV
  simp (maxSteps := 2000000) (disch := (first | assumption | with_unfolding_all rfl | omega | with_unfolding_all decide)) only [Lad.EV0, Lad.EV1, Lad.EV2, Lad.EV3, Lad.EV4, Lad.EV5, Lad.EV6, Lad.EV7, Lad.EV8, Lad.EV9, List.getElem?_cons_zero, List.getElem?_cons_succ, List.set_cons_zero, List.set_cons_succ, List.map_cons, List.map_nil, List.length_cons, List.length_nil, List.cons_append, List.nil_append, List.replicate_succ, List.replicate_zero, List.zip_cons_cons, List.zip_nil_right, List.zip_nil_left, Option.map_some, Bool.not_true, Bool.not_false, if_true, if_false, if_pos, if_neg, Nat.reduceLeDiff, Int.reduceAdd, Int.reduceSub, Int.reduceNeg, Int.reduceMul, Int.reduceLT, Int.reduceLE, Nat.reduceAdd, Nat.reduceSub, Bool.false_eq_true, reduceIte, and_self, ↓i1]
/-- wrong first differences -/
def NoF (o : Val) : Prop := o = .non ∨ o = .int (-1) ∨ o = .int 24 ∨ o = .bl true
theorem cf_no {o : Val} (no : NoF o) (h : Hea) : c_Duel_check_first [duV rows, o] h = .exc 4 o h := by
  have i1 := Bk.isi_ok h (-1) 0 23
  have i2 := Bk.isi_ok h 24 0 23
  have k : k_MOST_RATING = .int 23 := rfl
  unfold c_Duel_check_first b_Duel_check_first
  rw [q_int, k]
  unfold duV
  rcases no with rfl | rfl | rfl | rfl
  · have i : c_is_integer [.non, .int 0, .int 23] h = .ok (.bl false) h := by
      unfold c_is_integer b_is_integer c_is_whole b_is_whole
      simp (maxSteps := 2000000) (disch := (first | assumption | with_unfolding_all rfl | omega | with_unfolding_all decide)) only [Lad.EV0, Lad.EV1, Lad.EV2, Lad.EV3, Lad.EV4, Lad.EV5, Lad.EV6, Lad.EV7, Lad.EV8, Lad.EV9, List.getElem?_cons_zero, List.getElem?_cons_succ, List.set_cons_zero, List.set_cons_succ, List.map_cons, List.map_nil, List.length_cons, List.length_nil, List.cons_append, List.nil_append, List.replicate_succ, List.replicate_zero, List.zip_cons_cons, List.zip_nil_right, List.zip_nil_left, Option.map_some, Bool.not_true, Bool.not_false, if_true, if_false, if_pos, if_neg, Nat.reduceLeDiff, Int.reduceAdd, Int.reduceSub, Int.reduceNeg, Int.reduceMul, Int.reduceLT, Int.reduceLE, Nat.reduceAdd, Nat.reduceSub, Bool.false_eq_true, reduceIte, and_self]
    rw [q_int] at i
    simp (maxSteps := 2000000) (disch := (first | assumption | with_unfolding_all rfl | omega | with_unfolding_all decide)) only [Lad.EV0, Lad.EV1, Lad.EV2, Lad.EV3, Lad.EV4, Lad.EV5, Lad.EV6, Lad.EV7, Lad.EV8, Lad.EV9, List.getElem?_cons_zero, List.getElem?_cons_succ, List.set_cons_zero, List.set_cons_succ, List.map_cons, List.map_nil, List.length_cons, List.length_nil, List.cons_append, List.nil_append, List.replicate_succ, List.replicate_zero, List.zip_cons_cons, List.zip_nil_right, List.zip_nil_left, Option.map_some, Bool.not_true, Bool.not_false, if_true, if_false, if_pos, if_neg, Nat.reduceLeDiff, Int.reduceAdd, Int.reduceSub, Int.reduceNeg, Int.reduceMul, Int.reduceLT, Int.reduceLE, Nat.reduceAdd, Nat.reduceSub, Bool.false_eq_true, reduceIte, and_self, ↓i]
  · rw [show decide ((0 : Int) ≤ -1 ∧ (-1 : Int) ≤ 23) = false from rfl] at i1
    simp (maxSteps := 2000000) (disch := (first | assumption | with_unfolding_all rfl | omega | with_unfolding_all decide)) only [Lad.EV0, Lad.EV1, Lad.EV2, Lad.EV3, Lad.EV4, Lad.EV5, Lad.EV6, Lad.EV7, Lad.EV8, Lad.EV9, List.getElem?_cons_zero, List.getElem?_cons_succ, List.set_cons_zero, List.set_cons_succ, List.map_cons, List.map_nil, List.length_cons, List.length_nil, List.cons_append, List.nil_append, List.replicate_succ, List.replicate_zero, List.zip_cons_cons, List.zip_nil_right, List.zip_nil_left, Option.map_some, Bool.not_true, Bool.not_false, if_true, if_false, if_pos, if_neg, Nat.reduceLeDiff, Int.reduceAdd, Int.reduceSub, Int.reduceNeg, Int.reduceMul, Int.reduceLT, Int.reduceLE, Nat.reduceAdd, Nat.reduceSub, Bool.false_eq_true, reduceIte, and_self, ↓i1]
  · rw [show decide ((0 : Int) ≤ 24 ∧ (24 : Int) ≤ 23) = false from rfl] at i2
    simp (maxSteps := 2000000) (disch := (first | assumption | with_unfolding_all rfl | omega | with_unfolding_all decide)) only [Lad.EV0, Lad.EV1, Lad.EV2, Lad.EV3, Lad.EV4, Lad.EV5, Lad.EV6, Lad.EV7, Lad.EV8, Lad.EV9, List.getElem?_cons_zero, List.getElem?_cons_succ, List.set_cons_zero, List.set_cons_succ, List.map_cons, List.map_nil, List.length_cons, List.length_nil, List.cons_append, List.nil_append, List.replicate_succ, List.replicate_zero, List.zip_cons_cons, List.zip_nil_right, List.zip_nil_left, Option.map_some, Bool.not_true, Bool.not_false, if_true, if_false, if_pos, if_neg, Nat.reduceLeDiff, Int.reduceAdd, Int.reduceSub, Int.reduceNeg, Int.reduceMul, Int.reduceLT, Int.reduceLE, Nat.reduceAdd, Nat.reduceSub, Bool.false_eq_true, reduceIte, and_self, ↓i2]
  · have i : c_is_integer [.bl true, .int 0, .int 23] h = .ok (.bl false) h := by
      unfold c_is_integer b_is_integer c_is_whole b_is_whole
      simp (maxSteps := 2000000) (disch := (first | assumption | with_unfolding_all rfl | omega | with_unfolding_all decide)) only [Lad.EV0, Lad.EV1, Lad.EV2, Lad.EV3, Lad.EV4, Lad.EV5, Lad.EV6, Lad.EV7, Lad.EV8, Lad.EV9, List.getElem?_cons_zero, List.getElem?_cons_succ, List.set_cons_zero, List.set_cons_succ, List.map_cons, List.map_nil, List.length_cons, List.length_nil, List.cons_append, List.nil_append, List.replicate_succ, List.replicate_zero, List.zip_cons_cons, List.zip_nil_right, List.zip_nil_left, Option.map_some, Bool.not_true, Bool.not_false, if_true, if_false, if_pos, if_neg, Nat.reduceLeDiff, Int.reduceAdd, Int.reduceSub, Int.reduceNeg, Int.reduceMul, Int.reduceLT, Int.reduceLE, Nat.reduceAdd, Nat.reduceSub, Bool.false_eq_true, reduceIte, and_self]
    rw [q_int] at i
    simp (maxSteps := 2000000) (disch := (first | assumption | with_unfolding_all rfl | omega | with_unfolding_all decide)) only [Lad.EV0, Lad.EV1, Lad.EV2, Lad.EV3, Lad.EV4, Lad.EV5, Lad.EV6, Lad.EV7, Lad.EV8, Lad.EV9, List.getElem?_cons_zero, List.getElem?_cons_succ, List.set_cons_zero, List.set_cons_succ, List.map_cons, List.map_nil, List.length_cons, List.length_nil, List.cons_append, List.nil_append, List.replicate_succ, List.replicate_zero, List.zip_cons_cons, List.zip_nil_right, List.zip_nil_left, Option.map_some, Bool.not_true, Bool.not_false, if_true, if_false, if_pos, if_neg, Nat.reduceLeDiff, Int.reduceAdd, Int.reduceSub, Int.reduceNeg, Int.reduceMul, Int.reduceLT, Int.reduceLE, Nat.reduceAdd, Nat.reduceSub, Bool.false_eq_true, reduceIte, and_self, ↓i]
abbrev due (rows : List Row) (f : Int) (vs : List Val) : List Val := pv (f, 0) :: (runD rows f 0 0 vs).1.map pv
/-- the whole play -/
theorem play {cb : CB} {CE : Option Val → En} {G : List Val → Hea} (hc : Hears cb CE G) (tb : TabOk rows) {f : Int} (f0 : 0 ≤ f) (f1 : f < 24) {xsv : Val} {vs : List Val} (iv : ∀ v ∈ vs, Itm v) (lv : vs.length < 900) {ce : En} {h0 : Hea}
    (ht : ∀ x3 x4 x5 x6 x7 x8, eIt gTuple (eVar 2) [some (duV rows), some (.int f), some xsv, x3, x4, x5, x6, x7, x8] h0 = .ok (.tup vs) h0) (h1 : cb (pv (f, 0)) ce h0 = .nx (CE (some (pv (f, 0)))) (G [pv (f, 0)])) :
    ∃ x' k' e', c_Duel_play_C cb [duV rows, .int f, xsv] ce h0 = match (runD rows f 0 0 vs).2 with
      | none => .nx k' e' (CE x') (G (due rows f vs))
      | some w => .exc 4 (.int w) (CE x') (G (due rows f vs)) := by
  obtain ⟨x', e', lp⟩ := loop (f := f) (xs := xsv) (tp := .tup vs) hc tb vs 0 f 0 1 [pv (f, 0)] (some (pv (f, 0))) none none none iv f0 (by omega) (by rw [List.length_singleton]; omega)
  have c1 := cf_ok (rows := rows) f0 f1 h0
  refine ⟨x', 1 + vs.length, e', (runCo_eq (ns := 9) (body := b_Duel_play_C) rfl).trans ?_⟩
  unfold b_Duel_play_C
  refine cseq_nx (cpl_nx (e1 := startE 9 [duV rows, .int f, xsv]) (h1 := h0) ?_) ?_
  · have m : eMeth 34 25 c_Duel_check_first (eVar 0) (aCons (eVar 1) aNil) (startE 9 [duV rows, .int f, xsv]) h0 = .ok .non h0 := meth_of (B := duV rows) (h1 := h0) (h2 := h0) (fs := [(2, .tup (rows.map rowV)), (27, .int (span rows)), (28, .int (far rows))]) (ds := [.int f]) rfl rfl rfl rfl c1
    show ofR _ _ _ = _
    rw [m]
    rfl
  refine cseq_nx (cpl_nx (e1 := [some (duV rows), some (.int f), some xsv, some (.tup vs), none, none, none, none, none]) (h1 := h0) ?_) ?_
  · show ofR _ _ _ = _
    rw [show (startE 9 [duV rows, .int f, xsv]) = [some (duV rows), some (.int f), some xsv, none, none, none, none, none, none] from rfl, ht]
    rfl
  refine cseq_nx (cpl_nx (e1 := E9 rows f xsv (.tup vs) f 0 none none none) (h1 := h0) rfl) ?_
  refine cseq_nx (cyield_nx (v := pv (f, 0)) (by decide) rfl h1) ?_
  refine cseq_nil ((cfor_eq (xs := enumFrom 0 vs) rfl).trans ?_)
  exact lp
theorem play_no {cb : CB} {o : Val} (no : NoF o) (xsv : Val) (ce : En) (h : Hea) : c_Duel_play_C cb [duV rows, o, xsv] ce h = .exc 4 o ce h := by
  have c1 := cf_no (rows := rows) no h
  refine (runCo_eq (ns := 9) (body := b_Duel_play_C) rfl).trans ?_
  unfold b_Duel_play_C
  refine cseq_exc (cpl_exc (e1 := startE 9 [duV rows, o, xsv]) ?_)
  have m : eMeth 34 25 c_Duel_check_first (eVar 0) (aCons (eVar 1) aNil) (startE 9 [duV rows, o, xsv]) h = .exc 4 o h := meth_of (B := duV rows) (h1 := h) (h2 := h) (fs := [(2, .tup (rows.map rowV)), (27, .int (span rows)), (28, .int (far rows))]) (ds := [o]) rfl rfl rfl rfl c1
  show ofR _ _ _ = _
  rw [m]
  rfl
abbrev EH (rows : List Row) (fv xsv : Val) (j : Nat) (x : Option Val) : En := [some (duV rows), some fv, some xsv, some (.ref j), x, none]
theorem hears (fv xsv : Val) (h : Hea) : Hears (cbOf (gN 4) l__law_heard_0) (EH rows fv xsv h.length) (fun acc => h ++ [Ob.lst acc]) := by
  intro acc x q la
  show sEx (eApp (eVar 3) (eVar 4)) (EH rows fv xsv h.length (some (pv q))) (h ++ [Ob.lst acc]) = _
  have e : eApp (eVar 3) (eVar 4) (EH rows fv xsv h.length (some (pv q))) (h ++ [Ob.lst acc]) = .ok .non (h ++ [Ob.lst (acc ++ [pv q])]) := by
    show (match (h ++ [Ob.lst acc])[h.length]? with | some (Ob.lst _) => (Res.ok (pv q) (h ++ [Ob.lst acc])).bind (fun (y : Val) (h2 : Hea) => match h2[h.length]? with | some (Ob.lst xs) => if xs.length < 16777216 then Res.ok Val.non (h2.set h.length (Ob.lst (xs ++ [y]))) else .stuck | _ => .stuck) | _ => .stuck) = _
    rw [at_0]
    dsimp only
    rw [ap_bindOk, at_0]
    dsimp only
    rw [if_pos (by omega), set_0]
  show ofR _ _ _ = _
  rw [e]
  rfl
theorem pv_data (L : List (Int × Int)) : ∀ v ∈ L.map pv, noB 1 v = true := fun v hv => by
  obtain ⟨q, _, rfl⟩ := List.mem_map.mp hv
  rfl
theorem pv_noEx : ∀ L : List (Int × Int), noExL (L.map pv) = true
  | [] => rfl
  | q :: L => by
    show ((pv q).noEx && noExL (L.map pv)) = true
    rw [pv_noEx L]
    rfl
theorem noExH_app : ∀ {h t : Hea}, noExH h = true → noExH t = true → noExH (h ++ t) = true
  | [], _, _, b => b
  | o :: h, t, a, b => by
    simp only [noExH, Bool.and_eq_true] at a
    show (o.noEx && noExH (h ++ t)) = true
    rw [a.1, noExH_app a.2 b]
    rfl
/-- how an index is told -/
def wv : Option Nat → Val
  | none => .non
  | some i => (gReprD [] [.int i]).getD .non
theorem wv_ok {i : Nat} (hi : i < 12) : ∃ s : Str, wv (some i) = .str s ∧ PyData.strOk s = true ∧ ∀ h : Hea, gReprD h [.int i] = some (.str s) := by
  have c : i = 0 ∨ i = 1 ∨ i = 2 ∨ i = 3 ∨ i = 4 ∨ i = 5 ∨ i = 6 ∨ i = 7 ∨ i = 8 ∨ i = 9 ∨ i = 10 ∨ i = 11 := by omega
  rcases c with rfl | rfl | rfl | rfl | rfl | rfl | rfl | rfl | rfl | rfl | rfl | rfl
  · exact ⟨"0", by kernel_rfl, by kernel_rfl, fun h => by kernel_rfl⟩
  · exact ⟨"1", by kernel_rfl, by kernel_rfl, fun h => by kernel_rfl⟩
  · exact ⟨"2", by kernel_rfl, by kernel_rfl, fun h => by kernel_rfl⟩
  · exact ⟨"3", by kernel_rfl, by kernel_rfl, fun h => by kernel_rfl⟩
  · exact ⟨"4", by kernel_rfl, by kernel_rfl, fun h => by kernel_rfl⟩
  · exact ⟨"5", by kernel_rfl, by kernel_rfl, fun h => by kernel_rfl⟩
  · exact ⟨"6", by kernel_rfl, by kernel_rfl, fun h => by kernel_rfl⟩
  · exact ⟨"7", by kernel_rfl, by kernel_rfl, fun h => by kernel_rfl⟩
  · exact ⟨"8", by kernel_rfl, by kernel_rfl, fun h => by kernel_rfl⟩
  · exact ⟨"9", by kernel_rfl, by kernel_rfl, fun h => by kernel_rfl⟩
  · exact ⟨"10", by kernel_rfl, by kernel_rfl, fun h => by kernel_rfl⟩
  · exact ⟨"11", by kernel_rfl, by kernel_rfl, fun h => by kernel_rfl⟩
/-- what is caught -/
theorem caught {h : Hea} (cs : Cs h) (nx : noExH h = true) (fv xsv : Val) {L : List Val} (nL : noExL L = true) (dL : ∀ v ∈ L, noB 1 v = true) {o : Val} {s : Str} (rs : ∀ h : Hea, gReprD h [o] = some (.str s)) {x : Option Val}
    (e : sForC okE 3 c_Duel_play_C (aMeth 34 24 (eVar 0) (aCons (eVar 1) (aCons (eVar 2) aNil))) (gN 4) l__law_heard_0 [some (duV rows), some fv, some xsv, some (.ref h.length), none, none] (h ++ [Ob.lst []]) = .exc 4 o (EH rows fv xsv h.length x) (h ++ [Ob.lst L])) :
    c__law_heard [duV rows, fv, xsv] h = .ok (.lst [.lst L, .str s]) h := by
  refine (run_rt (fn := fin) (b := b__law_heard) (d := .lst [.ref h.length, .str s]) (h' := h ++ [Ob.lst L]) rfl ?_).trans (cs.fin _ [] ?_)
  · unfold b__law_heard
    refine seq_set (d := .ref h.length) (h1 := h ++ [Ob.lst []]) rfl (Sp.seq_rt ?_)
    unfold sTryM
    show (match sForC okE 3 c_Duel_play_C (aMeth 34 24 (eVar 0) (aCons (eVar 1) (aCons (eVar 2) aNil))) (gN 4) l__law_heard_0 [some (duV rows), some fv, some xsv, some (.ref h.length), none, none] (h ++ [Ob.lst []]) with | .exc c d e1 h1 => _ | r => r) = _
    rw [e]
    show suiteEnd 5 (h ++ [Ob.lst L]) (sRet (eLst (lDisp (aCons (eVar 3) (aCons (eCB gReprD (aCons (eUn oExF (eVar 5)) aNil)) aNil)))) [some (duV rows), some fv, some xsv, some (.ref h.length), x, some (.exn 4 o)] (h ++ [Ob.lst L])) = _
    have r : sRet (eLst (lDisp (aCons (eVar 3) (aCons (eCB gReprD (aCons (eUn oExF (eVar 5)) aNil)) aNil)))) [some (duV rows), some fv, some xsv, some (.ref h.length), x, some (.exn 4 o)] (h ++ [Ob.lst L]) = .rt (.lst [.ref h.length, .str s]) (h ++ [Ob.lst L]) := by
      have g := rs (h ++ [Ob.lst L])
      generalize h ++ [Ob.lst L] = hh at *
      simp (maxSteps := 2000000) (disch := (first | assumption | with_unfolding_all rfl | omega | with_unfolding_all decide)) only [Lad.EV0, Lad.EV1, Lad.EV2, Lad.EV3, Lad.EV4, Lad.EV5, Lad.EV6, Lad.EV7, Lad.EV8, Lad.EV9, List.getElem?_cons_zero, List.getElem?_cons_succ, List.set_cons_zero, List.set_cons_succ, List.map_cons, List.map_nil, List.length_cons, List.length_nil, List.cons_append, List.nil_append, List.replicate_succ, List.replicate_zero, List.zip_cons_cons, List.zip_nil_right, List.zip_nil_left, Option.map_some, Bool.not_true, Bool.not_false, if_true, if_false, if_pos, if_neg, Nat.reduceLeDiff, Int.reduceAdd, Int.reduceSub, Int.reduceNeg, Int.reduceMul, Int.reduceLT, Int.reduceLE, Nat.reduceAdd, Nat.reduceSub, Bool.false_eq_true, reduceIte, and_self, g]
    rw [r]
    have n2 : noExH (h ++ [Ob.lst L]) = true := noExH_app nx (by show (noExL L && true) = true; rw [nL]; rfl)
    show (if (noExH (h ++ [Ob.lst L]) && true) = true then SRes.rt _ _ else _) = _
    rw [n2]
    rfl
  · show (mapO (frz 39 h.length (h ++ [Ob.lst L])) [.ref h.length, .str s]).map Val.lst = _
    have f1 : frz 39 h.length (h ++ [Ob.lst L]) (.ref h.length) = some (.lst L) := by
      rw [frz_ref (Nat.le_refl _) (at_0 h _ []), mapO_noB (k := 1) (by decide) dL]
      rfl
    unfold mapO
    rw [f1]
    rfl
theorem heard {h : Hea} (cs : Cs h) (nx : noExH h = true) (tb : TabOk rows) {f : Int} (f0 : 0 ≤ f) (f1 : f < 24) {xsv : Val} {vs : List Val} (iv : ∀ v ∈ vs, Itm v) (lv : vs.length < 12) (hx : xsv = .lst vs ∨ xsv = .tup vs) (hw : ∀ i, (runD rows f 0 0 vs).2 = some i → i < 12) :
    c__law_heard [duV rows, .int f, xsv] h = .ok (.lst [.lst (due rows f vs), wv (runD rows f 0 0 vs).2]) h := by
  have ht : ∀ x3 x4 x5 x6 x7 x8, eIt gTuple (eVar 2) [some (duV rows), some (.int f), some xsv, x3, x4, x5, x6, x7, x8] (h ++ [Ob.lst []]) = .ok (.tup vs) (h ++ [Ob.lst []]) := by
    intro x3 x4 x5 x6 x7 x8
    rcases hx with rfl | rfl <;> rfl
  have hh := hears (rows := rows) (.int f) xsv h
  obtain ⟨x', k', e', pl⟩ := play (ce := EH rows (.int f) xsv h.length none) (h0 := h ++ [Ob.lst []]) hh tb f0 f1 iv (by omega) ht (hh [] none (f, 0) (by decide))
  have ar : aMeth 34 24 (eVar 0) (aCons (eVar 1) (aCons (eVar 2) aNil)) [some (duV rows), some (.int f), some xsv, some (.ref h.length), none, none] (h ++ [Ob.lst []]) = .ok [duV rows, .int f, xsv] (h ++ [Ob.lst []]) := rfl
  have fc := forC_eq (okc := okE) (cf := c_Duel_play_C) (b := gN 4) (body := l__law_heard_0) (np := 3) ar rfl
  have pn : noExL (due rows f vs) = true := pv_noEx ((f, 0) :: (runD rows f 0 0 vs).1)
  have pd : ∀ v ∈ due rows f vs, noB 1 v = true := pv_data ((f, 0) :: (runD rows f 0 0 vs).1)
  cases hr : (runD rows f 0 0 vs).2 with
  | some i =>
    obtain ⟨s, e1, _, e2⟩ := wv_ok (hw i hr)
    rw [hr] at pl
    rw [e1]
    refine caught cs nx (.int f) xsv pn pd e2 (x := x') (fc.trans ?_)
    show finC okE (c_Duel_play_C (cbOf (gN 4) l__law_heard_0) [duV rows, .int f, xsv] (EH rows (.int f) xsv h.length none) (h ++ [Ob.lst []])) = _
    rw [pl]
    rfl
  | none =>
    rw [hr] at pl
    refine (run_rt (fn := fin) (b := b__law_heard) (d := .lst [.ref h.length, .non]) (h' := h ++ [Ob.lst (due rows f vs)]) rfl ?_).trans (cs.fin _ [] ?_)
    · unfold b__law_heard
      refine seq_set (d := .ref h.length) (h1 := h ++ [Ob.lst []]) rfl (seq_nx (e1 := EH rows (.int f) xsv h.length x') (h1 := h ++ [Ob.lst (due rows f vs)]) ?_ ?_)
      · unfold sTryM
        show (match sForC okE 3 c_Duel_play_C (aMeth 34 24 (eVar 0) (aCons (eVar 1) (aCons (eVar 2) aNil))) (gN 4) l__law_heard_0 [some (duV rows), some (.int f), some xsv, some (.ref h.length), none, none] (h ++ [Ob.lst []]) with | .exc c d e1 h1 => _ | r => r) = _
        rw [fc]
        show (match finC okE (c_Duel_play_C (cbOf (gN 4) l__law_heard_0) [duV rows, .int f, xsv] (EH rows (.int f) xsv h.length none) (h ++ [Ob.lst []])) with | .exc c d e1 h1 => _ | r => r) = _
        rw [pl]
        rfl
      · rfl
    · show (mapO (frz 39 h.length (h ++ [Ob.lst (due rows f vs)])) [.ref h.length, .non]).map Val.lst = _
      have g1 : frz 39 h.length (h ++ [Ob.lst (due rows f vs)]) (.ref h.length) = some (.lst (due rows f vs)) := by
        rw [frz_ref (Nat.le_refl _) (at_0 h _ []), mapO_noB (k := 1) (by decide) pd]
        rfl
      unfold mapO
      rw [g1]
      rfl
theorem heard_no {h : Hea} (cs : Cs h) (nx : noExH h = true) {o : Val} (no : NoF o) (xsv : Val) {s : Str} (rs : ∀ h : Hea, gReprD h [o] = some (.str s)) : c__law_heard [duV rows, o, xsv] h = .ok (.lst [.lst [], .str s]) h := by
  have ar : aMeth 34 24 (eVar 0) (aCons (eVar 1) (aCons (eVar 2) aNil)) [some (duV rows), some o, some xsv, some (.ref h.length), none, none] (h ++ [Ob.lst []]) = .ok [duV rows, o, xsv] (h ++ [Ob.lst []]) := rfl
  have fc := forC_eq (okc := okE) (cf := c_Duel_play_C) (b := gN 4) (body := l__law_heard_0) (np := 3) ar rfl
  refine caught cs nx o xsv (L := []) rfl (fun _ z => nomatch z) rs (x := none) (fc.trans ?_)
  rw [play_no no]
  rfl
end
end K41
end
section
set_option maxRecDepth 100000
set_option maxHeartbeats 1000000
namespace K41
open PySem L2 Lad Bk Plc Cl
section
variable {rows : List Row}
theorem rng_small {n : Nat} (h : n < 1000) : rngOk (n : Int) = true := by
  have a : (-(2 ^ 62) : Int) ≤ (n : Int) := Int.le_trans (by decide) (Int.natCast_nonneg n)
  have b : (n : Int) < 2 ^ 62 := Int.lt_of_lt_of_le (show (n : Int) < 1000 by omega) (by decide)
  exact decide_eq_true ⟨a, b⟩
theorem sz2 (h : Hea) (a b : Ob) : (h ++ [a, b])[h.length + 1]? = some b := at_1 h a [] b []
theorem st2 (h : Hea) (a b c : Ob) : (h ++ [a, b]).set (h.length + 1) c = h ++ [a, c] := set_1 h a [] b c []
/-- a row is emptied -/
theorem empty_loop (h : Hea) (b : Ob) : ∀ (js : List Val) (xs : List Val) (y : Option Val), js.length = xs.length → ∃ y', forL (gN 1) l__law_emptied_0 js [some (.ref h.length), y] (h ++ [Ob.lst xs, b]) = .nx [some (.ref h.length), y'] (h ++ [Ob.lst [], b])
  | [], [], y, _ => ⟨y, rfl⟩
  | [], _ :: _, _, l => by cases l
  | j :: js, [], _, l => by cases l
  | j :: js, x :: xs, y, l => by
    have e : sEx (ePopL (eVar 0)) [some (.ref h.length), some j] (h ++ [Ob.lst (x :: xs), b]) = .nx [some (.ref h.length), some j] (h ++ [Ob.lst (x :: xs).dropLast, b]) := by
      have p : ePopL (eVar 0) [some (.ref h.length), some j] (h ++ [Ob.lst (x :: xs), b]) = .ok ((x :: xs)[xs.length]'(by simp)) (h ++ [Ob.lst (x :: xs).dropLast, b]) := by
        show (match (h ++ [Ob.lst (x :: xs), b])[h.length]? with | some (Ob.lst zs) => (match zs[zs.length - 1]? with | some y => Res.ok y ((h ++ [Ob.lst (x :: xs), b]).set h.length (Ob.lst zs.dropLast)) | none => .stuck) | _ => .stuck) = _
        rw [at_0]
        dsimp only
        rw [show (x :: xs).length - 1 = xs.length by simp, List.getElem?_eq_getElem (by simp), set_0]
      show ofR _ _ _ = _
      rw [p]
      rfl
    obtain ⟨y', q⟩ := empty_loop h b js (x :: xs).dropLast (some j) (by rw [List.length_dropLast]; simpa using l)
    exact ⟨y', (for_cons (e1 := [some (.ref h.length), some j]) rfl e).trans q⟩
theorem emptied (h : Hea) (b : Ob) (xs : List Val) (l : xs.length < 1000) : c__law_emptied [.ref h.length] (h ++ [Ob.lst xs, b]) = .ok .non (h ++ [Ob.lst [], b]) := by
  obtain ⟨y', q⟩ := empty_loop h b (rangeV 0 xs.length) xs none (by unfold rangeV; rw [List.length_map, List.length_range])
  have s : iRng1V (aCons (eIt gLen (eVar 0)) aNil) [some (.ref h.length), none] (h ++ [Ob.lst xs, b]) = .ok (srcFix (rangeV 0 xs.length)) (h ++ [Ob.lst xs, b]) := by
    have a : aCons (eIt gLen (eVar 0)) aNil [some (.ref h.length), none] (h ++ [Ob.lst xs, b]) = .ok [.int xs.length] (h ++ [Ob.lst xs, b]) := by
      refine acons_ok ?_ rfl
      show (match (match (h ++ [Ob.lst xs, b])[h.length]? with | some (.lst zs) => some zs | some (.fro ns) => some (ns.map Val.int) | _ => none) with | some zs => opt (gLen zs) (h ++ [Ob.lst xs, b]) | none => .stuck) = _
      rw [at_0]
      rfl
    unfold iRng1V
    rw [a]
    rw [ap_bindOk]
    have n := Int.toNat_natCast xs.length
    have r := rng_small l
    generalize (xs.length : Int) = z at *
    show (if rngOk z = true then Res.ok (srcFix (rangeV 0 z.toNat)) _ else .stuck) = _
    rw [if_pos r, n]
  refine (run_nx (fn := fin) (b := b__law_emptied) (e' := [some (.ref h.length), y']) (h' := h ++ [Ob.lst [], b]) rfl ?_).trans (fin_len (by simp))
  unfold b__law_emptied
  exact (for_eq s).trans q
abbrev EK (rows : List Row) (fv xsv : Val) (j : Nat) (x : Option Val) : En := [some (duV rows), some fv, some xsv, some (.ref j), some (.ref (j + 1)), x]
theorem keeps (fv xsv : Val) (h : Hea) (xs : List Val) (lx : xs.length < 1000) (acc : List Val) (x : Option Val) (q : Int × Int) (la : acc.length < 1000) :
    cbOf (gN 5) l__law_kept_0 (pv q) (EK rows fv xsv h.length x) (h ++ [Ob.lst xs, Ob.lst acc]) = .nx (EK rows fv xsv h.length (some (pv q))) (h ++ [Ob.lst [], Ob.lst (acc ++ [pv q])]) := by
  show l__law_kept_0 (EK rows fv xsv h.length (some (pv q))) (h ++ [Ob.lst xs, Ob.lst acc]) = _
  unfold l__law_kept_0
  have e : eApp (eVar 4) (eVar 5) (EK rows fv xsv h.length (some (pv q))) (h ++ [Ob.lst xs, Ob.lst acc]) = .ok .non (h ++ [Ob.lst xs, Ob.lst (acc ++ [pv q])]) := by
    show (match (h ++ [Ob.lst xs, Ob.lst acc])[h.length + 1]? with | some (Ob.lst _) => (Res.ok (pv q) (h ++ [Ob.lst xs, Ob.lst acc])).bind (fun (y : Val) (h2 : Hea) => match h2[h.length + 1]? with | some (Ob.lst xs) => if xs.length < 16777216 then Res.ok Val.non (h2.set (h.length + 1) (Ob.lst (xs ++ [y]))) else .stuck | _ => .stuck) | _ => .stuck) = _
    rw [sz2]
    dsimp only
    rw [ap_bindOk, sz2]
    dsimp only
    rw [if_pos (by omega), st2]
  refine seq_nx (e1 := EK rows fv xsv h.length (some (pv q))) (h1 := h ++ [Ob.lst xs, Ob.lst (acc ++ [pv q])]) ?_ ?_
  · show ofR _ _ _ = _
    rw [e]
    rfl
  · have m := emptied h (Ob.lst (acc ++ [pv q])) xs lx
    show ofR (eCall c__law_emptied (aCons (eVar 3) aNil) _ _) _ _ = _
    rw [call_eq (ds := [.ref h.length]) (h1 := h ++ [Ob.lst xs, Ob.lst (acc ++ [pv q])]) rfl m]
    rfl
theorem kept {h : Hea} (cs : Cs h) (tb : TabOk rows) {f : Int} (f0 : 0 ≤ f) (f1 : f < 24) {vs : List Val} (iv : ∀ v ∈ vs, Itm v) (lv : vs.length < 12) (hn : (runD rows f 0 0 vs).2 = none) :
    c__law_kept [duV rows, .int f, .lst vs] h = .ok (.lst (due rows f vs)) h := by
  have ht : ∀ x3 x4 x5 x6 x7 x8, eIt gTuple (eVar 2) [some (duV rows), some (.int f), some (.ref h.length), x3, x4, x5, x6, x7, x8] (h ++ [Ob.lst vs, Ob.lst []]) = .ok (.tup vs) (h ++ [Ob.lst vs, Ob.lst []]) := by
    intro x3 x4 x5 x6 x7 x8
    show (match (match (h ++ [Ob.lst vs, Ob.lst []])[h.length]? with | some (.lst zs) => some zs | some (.fro ns) => some (ns.map Val.int) | _ => none) with | some zs => opt (gTuple zs) (h ++ [Ob.lst vs, Ob.lst []]) | none => .stuck) = _
    rw [at_0]
    rfl
  have hh : Hears (cbOf (gN 5) l__law_kept_0) (EK rows (.int f) (.lst vs) h.length) (fun acc => h ++ [Ob.lst [], Ob.lst acc]) := fun acc x q la => keeps (.int f) (.lst vs) h [] (by decide) acc x q la
  obtain ⟨x', k', e', pl⟩ := play (ce := EK rows (.int f) (.lst vs) h.length none) (h0 := h ++ [Ob.lst vs, Ob.lst []]) hh tb f0 f1 iv (by omega) ht (keeps (.int f) (.lst vs) h vs (by omega) [] none (f, 0) (by decide))
  rw [hn] at pl
  have ar : aMeth 34 24 (eVar 0) (aCons (eVar 1) (aCons (eVar 3) aNil)) (EK rows (.int f) (.lst vs) h.length none) (h ++ [Ob.lst vs, Ob.lst []]) = .ok [duV rows, .int f, .ref h.length] (h ++ [Ob.lst vs, Ob.lst []]) := rfl
  have fc := forC_eq (okc := okE) (cf := c_Duel_play_C) (b := gN 5) (body := l__law_kept_0) (np := 3) ar rfl
  rw [pl] at fc
  have pd : ∀ v ∈ due rows f vs, noB 1 v = true := pv_data ((f, 0) :: (runD rows f 0 0 vs).1)
  refine (run_rt (fn := fin) (b := b__law_kept) (d := .ref (h.length + 1)) (h' := h ++ [Ob.lst [], Ob.lst (due rows f vs)]) rfl ?_).trans (cs.fin _ [_] ?_)
  · unfold b__law_kept
    refine seq_nx (e1 := EK rows (.int f) (.lst vs) h.length none) (h1 := h ++ [Ob.lst vs, Ob.lst []]) ?_ (seq_nx (e1 := EK rows (.int f) (.lst vs) h.length x') (h1 := h ++ [Ob.lst [], Ob.lst (due rows f vs)]) (fc.trans rfl) rfl)
    have a1 : eNew (lOf (eVar 2)) (startE 6 [duV rows, Val.int f, Val.lst vs]) h = .ok (Val.ref h.length) (h ++ [Ob.lst vs]) := rfl
    have a2 : eNew (lDisp aNil) (startE 6 [duV rows, Val.int f, Val.lst vs]) (h ++ [Ob.lst vs]) = .ok (Val.ref (h.length + 1)) (h ++ [Ob.lst vs, Ob.lst []]) := by
      show Res.ok (Val.ref (h ++ [Ob.lst vs]).length) ((h ++ [Ob.lst vs]) ++ [Ob.lst []]) = _
      rw [List.length_append, List.append_assoc]
      rfl
    unfold sPar
    rw [acons_ok a1 (acons_ok a2 rfl)]
    rfl
  · rw [frz_ref (Nat.le_add_right _ _) (sz2 h _ _), mapO_noB (k := 1) (by decide) pd]
    rfl
theorem loe {d : Int} (d0 : 0 ≤ d) (tb : TabOk rows) {s : Str} (hs : s ∈ ress) (h : Hea) : c__law_step [.lst (rows.map rowV), .int d, .str s] h = .ok (match tld rows d (.str s) with | some q => .lst [.int q.1, .int q.2] | none => .non) h := by
  obtain ⟨r, _, er⟩ := Sp.row_there tb d0
  have e := lstep_ok tb er hs h
  rw [e]
  unfold tld
  dsimp only
  rw [if_pos hs, er]
  dsimp only
  cases entOf r s with
  | none => rfl
  | some q => rfl
end
end K41
end
section
set_option maxRecDepth 100000
set_option maxHeartbeats 1000000
namespace K41
open PySem L2 Lad Bk Plc Cl
theorem forKL_cons {gc : En → Hea → En × Hea} {b : Val → En → Option En} {body : En → Hea → SRes} {v : Val} {vs : List Val} {e e1 e2 e3 : En} {h h2 h3 : Hea} {r : SRes} (a1 : b v e = some e1) (a2 : body e1 h = .nx e2 h2) (a3 : gc e2 h2 = (e3, h3)) (a4 : forKL gc b body vs e3 h3 = r) : forKL gc b body (v :: vs) e h = r := by
  unfold forKL
  simp only [a1, a2, a3]
  exact a4
section
variable {rows : List Row} {k z f : Int} {R : List Val} {o xsv : Val} {a : Int}
abbrev EL (rows : List Row) (k z f : Int) (R : List Val) (o : Val) (a : Int) (xsv : Val) (d t : Int) (w : Option Nat) (x15 x16 x17 : Option Val) : En := [some (.ref 0), some (.int k), some (.int z), some (.ref 2), some (.lst (rows.map rowV)), some (.int f), some (duV rows), some (.lst R), some o, some (.int a), some xsv, some (.int d), some (.int t), some (.ref 3), some (wv w), x15, x16, x17, none, none]
abbrev upL : Val := .lst [.str "upper", .str "draw", .str "lower"]
theorem inR {s : Str} (hs : s ∈ ress) (h : Hea) : oIn h (.str s) upL = some (.bl true) := by
  simp only [ress, List.mem_cons, List.not_mem_nil, or_false] at hs
  rcases hs with rfl | rfl | rfl <;> kernel_rfl
theorem inO {v : Val} (ov : Odd v) (h : Hea) : oIn h v upL = some (.bl false) := by
  rcases ov with rfl | rfl | rfl | rfl | rfl | rfl <;> kernel_rfl
def tv (rows : List Row) (d : Int) (v : Val) : Val := match tld rows d v with
  | some q => .lst [.int q.1, .int q.2]
  | none => .non
abbrev s17 : En → Hea → SRes := (sSet 17 (eIf (eBin oIn (eVar 16) (eLst (lDisp (aCons (eC (.str "upper")) (aCons (eC (.str "draw")) (aCons (eC (.str "lower")) aNil)))))) (eCall c__law_step (aCons (eVar 4) (aCons (eVar 11) (aCons (eVar 16) aNil)))) (eC .non)))
theorem told (tb : TabOk rows) {d : Int} (d0 : 0 ≤ d) {v : Val} (iv : Itm v) (t : Int) (w : Option Nat) (i : Nat) (x17 : Option Val) (h : Hea) :
    s17 (EL rows k z f R o a xsv d t w (some (.int i)) (some v) x17) h = .nx (EL rows k z f R o a xsv d t w (some (.int i)) (some v) (some (tv rows d v))) h := by
  have e : (eIf (eBin oIn (eVar 16) (eLst (lDisp (aCons (eC (.str "upper")) (aCons (eC (.str "draw")) (aCons (eC (.str "lower")) aNil)))))) (eCall c__law_step (aCons (eVar 4) (aCons (eVar 11) (aCons (eVar 16) aNil)))) (eC .non)) (EL rows k z f R o a xsv d t w (some (.int i)) (some v) x17) h = .ok (tv rows d v) h := by
    rcases iv with ⟨s, hs, rfl⟩ | ov
    · have c := inR hs h
      have l : c__law_step [.lst (rows.map rowV), .int d, .str s] h = .ok (tv rows d (.str s)) h := loe d0 tb hs h
      generalize tv rows d (.str s) = W at *
      unfold EL
      simp (maxSteps := 2000000) (disch := (first | assumption | with_unfolding_all rfl | omega | with_unfolding_all decide)) only [Lad.EV0, Lad.EV1, Lad.EV2, Lad.EV3, Lad.EV4, Lad.EV5, Lad.EV6, Lad.EV7, Lad.EV8, Lad.EV9, List.getElem?_cons_zero, List.getElem?_cons_succ, List.set_cons_zero, List.set_cons_succ, List.map_cons, List.map_nil, List.length_cons, List.length_nil, List.cons_append, List.nil_append, List.replicate_succ, List.replicate_zero, List.zip_cons_cons, List.zip_nil_right, List.zip_nil_left, Option.map_some, Bool.not_true, Bool.not_false, if_true, if_false, if_pos, if_neg, Nat.reduceLeDiff, Int.reduceAdd, Int.reduceSub, Int.reduceNeg, Int.reduceMul, Int.reduceLT, Int.reduceLE, Nat.reduceAdd, Nat.reduceSub, Bool.false_eq_true, reduceIte, and_self, ↓c, ↓l]
    · have c := inO ov h
      unfold tv
      rw [odd_tld ov]
      unfold EL
      simp (maxSteps := 2000000) (disch := (first | assumption | with_unfolding_all rfl | omega | with_unfolding_all decide)) only [Lad.EV0, Lad.EV1, Lad.EV2, Lad.EV3, Lad.EV4, Lad.EV5, Lad.EV6, Lad.EV7, Lad.EV8, Lad.EV9, List.getElem?_cons_zero, List.getElem?_cons_succ, List.set_cons_zero, List.set_cons_succ, List.map_cons, List.map_nil, List.length_cons, List.length_nil, List.cons_append, List.nil_append, List.replicate_succ, List.replicate_zero, List.zip_cons_cons, List.zip_nil_right, List.zip_nil_left, Option.map_some, Bool.not_true, Bool.not_false, if_true, if_false, if_pos, if_neg, Nat.reduceLeDiff, Int.reduceAdd, Int.reduceSub, Int.reduceNeg, Int.reduceMul, Int.reduceLT, Int.reduceLE, Nat.reduceAdd, Nat.reduceSub, Bool.false_eq_true, reduceIte, and_self, ↓c]
  show ofR _ _ _ = _
  rw [e]
  rfl
theorem isW (w : Option Nat) (hw : ∀ i, w = some i → i < 12) (h : Hea) : oIs h (wv w) .non = some (.bl w.isNone) := by
  cases w with
  | none => rfl
  | some i =>
    obtain ⟨s, e, _⟩ := wv_ok (hw i rfl)
    rw [e]
    rfl
/-- one result -/
theorem lturn (tb : TabOk rows) {d : Int} (d0 : 0 ≤ d) {v : Val} (iv : Itm v) (t : Int) (w : Option Nat) (hw : ∀ i, w = some i → i < 12) {i : Nat} (hi : i < 12) (x17 : Option Val) {h0 : Hea} (h3 : h0.length = 3) (acc : List Val) (la : acc.length < 1000) :
    l_law_0 (EL rows k z f R o a xsv d t w (some (.int i)) (some v) x17) (h0 ++ [Ob.lst acc]) = match w, tld rows d v with
      | some j, _ => .nx (EL rows k z f R o a xsv d t (some j) (some (.int i)) (some v) (some (tv rows d v))) (h0 ++ [Ob.lst acc])
      | none, none => .nx (EL rows k z f R o a xsv d t (some i) (some (.int i)) (some v) (some (tv rows d v))) (h0 ++ [Ob.lst acc])
      | none, some q => .nx (EL rows k z f R o a xsv q.1 (t + q.2) none (some (.int i)) (some v) (some (tv rows d v))) (h0 ++ [Ob.lst (acc ++ [pv (q.1, t + q.2)])]) := by
  have e1 := told (k := k) (z := z) (f := f) (R := R) (o := o) (a := a) (xsv := xsv) tb d0 iv t w i x17 (h0 ++ [Ob.lst acc])
  unfold l_law_0
  refine seq_nx e1 ?_
  cases w with
  | some j =>
    obtain ⟨s, es, _⟩ := wv_ok (hw j rfl)
    have c0 : eBin oIs (eVar 14) (eC .non) (EL rows k z f R o a xsv d t (some j) (some (.int i)) (some v) (some (tv rows d v))) (h0 ++ [Ob.lst acc]) = .ok (.bl false) (h0 ++ [Ob.lst acc]) := by
      unfold EL
      rw [es]
      rfl
    have c1 : eAnd (eBin oIs (eVar 17) (eC .non)) (eBin oIs (eVar 14) (eC .non)) (EL rows k z f R o a xsv d t (some j) (some (.int i)) (some v) (some (tv rows d v))) (h0 ++ [Ob.lst acc]) = .ok (.bl false) (h0 ++ [Ob.lst acc]) := by
      unfold tv at c0 ⊢
      cases tld rows d v with
      | none => exact and_yes (h1 := h0 ++ [Ob.lst acc]) rfl c0
      | some q => exact and_no rfl
    exact seq_if_no c1 (if_no c0)
  | none =>
    cases ht : tld rows d v with
    | none =>
      obtain ⟨s, es, _, er⟩ := wv_ok hi
      have et : tv rows d v = .non := by unfold tv; rw [ht]
      have er := er (h0 ++ [Ob.lst acc])
      rw [et]
      show _ = SRes.nx (EL rows k z f R o a xsv d t (some i) (some (.int i)) (some v) (some .non)) (h0 ++ [Ob.lst acc])
      refine seq_nx (e1 := EL rows k z f R o a xsv d t (some i) (some (.int i)) (some v) (some .non)) (h1 := h0 ++ [Ob.lst acc]) ?_ ?_
      · refine if_yes (h1 := h0 ++ [Ob.lst acc]) rfl ?_
        unfold EL
        rw [es]
        generalize h0 ++ [Ob.lst acc] = hh at *
        simp (maxSteps := 2000000) (disch := (first | assumption | with_unfolding_all rfl | omega | with_unfolding_all decide)) only [Lad.EV0, Lad.EV1, Lad.EV2, Lad.EV3, Lad.EV4, Lad.EV5, Lad.EV6, Lad.EV7, Lad.EV8, Lad.EV9, List.getElem?_cons_zero, List.getElem?_cons_succ, List.set_cons_zero, List.set_cons_succ, List.map_cons, List.map_nil, List.length_cons, List.length_nil, List.cons_append, List.nil_append, List.replicate_succ, List.replicate_zero, List.zip_cons_cons, List.zip_nil_right, List.zip_nil_left, Option.map_some, Bool.not_true, Bool.not_false, if_true, if_false, if_pos, if_neg, Nat.reduceLeDiff, Int.reduceAdd, Int.reduceSub, Int.reduceNeg, Int.reduceMul, Int.reduceLT, Int.reduceLE, Nat.reduceAdd, Nat.reduceSub, Bool.false_eq_true, reduceIte, and_self, er]
      · refine if_no ?_
        unfold EL
        rw [es]
        rfl
    | some q =>
      have et : tv rows d v = .lst [.int q.1, .int q.2] := by unfold tv; rw [ht]
      rw [et]
      refine seq_if_no (h1 := h0 ++ [Ob.lst acc]) (and_no rfl) ?_
      refine if_yes (h1 := h0 ++ [Ob.lst acc]) rfl ?_
      refine seq_nx (e1 := EL rows k z f R o a xsv q.1 (t + q.2) none (some (.int i)) (some v) (some (.lst [.int q.1, .int q.2]))) (h1 := h0 ++ [Ob.lst acc]) rfl ?_
      have e : eApp (eVar 13) (eTup (aCons (eVar 11) (aCons (eVar 12) aNil))) (EL rows k z f R o a xsv q.1 (t + q.2) none (some (.int i)) (some v) (some (.lst [.int q.1, .int q.2]))) (h0 ++ [Ob.lst acc]) = .ok .non (h0 ++ [Ob.lst (acc ++ [pv (q.1, t + q.2)])]) := by
        show (match (h0 ++ [Ob.lst acc])[3]? with | some (Ob.lst _) => (Res.ok (pv (q.1, t + q.2)) (h0 ++ [Ob.lst acc])).bind (fun (y : Val) (h2 : Hea) => match h2[3]? with | some (Ob.lst xs) => if xs.length < 16777216 then Res.ok Val.non (h2.set 3 (Ob.lst (xs ++ [y]))) else .stuck | _ => .stuck) | _ => .stuck) = _
        rw [← h3, at_0]
        dsimp only
        rw [ap_bindOk, at_0]
        dsimp only
        rw [if_pos (by omega), set_0]
      show ofR _ _ _ = _
      rw [e]
      rfl
theorem lloop (tb : TabOk rows) {h0 : Hea} (h3 : h0.length = 3) (cs : Cs h0) : ∀ (vs : List Val) (i : Nat) (d t : Int) (w : Option Nat) (acc : List Val), (∀ v ∈ vs, Itm v) → 0 ≤ d → (∀ j, w = some j → j < 12) → i + vs.length < 12 → acc.length + vs.length < 1000 → (∀ v ∈ acc, v.und 0 = true) →
    ∃ d' t', forKL (gcN [15, 16, 17] (h0.length + 1)) (gT [15, 16]) l_law_0 (enumFrom i vs) (EL rows k z f R o a xsv d t w none none none) (h0 ++ [Ob.lst acc]) = match w with
      | some j => .nx (EL rows k z f R o a xsv d' t' (some j) none none none) (h0 ++ [Ob.lst acc])
      | none => .nx (EL rows k z f R o a xsv d' t' (runD rows d t i vs).2 none none none) (h0 ++ [Ob.lst (acc ++ (runD rows d t i vs).1.map pv)])
  | [], i, d, t, w, acc, _, _, _, _, _, _ => ⟨d, t, by
    cases w with
    | some j => rfl
    | none => show SRes.nx _ _ = SRes.nx _ (h0 ++ [Ob.lst (acc ++ [])]); rw [List.append_nil]; rfl⟩
  | v :: vs, i, d, t, w, acc, iv, d0, hw, hi, ha, ua => by
    rw [List.length_cons] at hi ha
    have one := lturn (k := k) (z := z) (f := f) (R := R) (o := o) (a := a) (xsv := xsv) tb d0 (iv v List.mem_cons_self) t w hw (show i < 12 by omega) none h3 acc (by omega)
    have gc : ∀ (e : En) (acc : List Val), (∀ v ∈ acc, v.und 0 = true) → gcN [15, 16, 17] (h0.length + 1) e (h0 ++ [Ob.lst acc]) = (wipeAll e [15, 16, 17], h0 ++ [Ob.lst acc]) := fun e acc ua => by
      have c : Cs (h0 ++ [Ob.lst acc]) := cs.app fun ob hob => by
        rw [List.mem_singleton.mp hob]
        exact lst_und fun v hv => und_mono (Nat.zero_le _) v (ua v hv)
      have s := c.shut []
      rw [List.append_nil, List.length_append, List.length_singleton] at s
      exact gc_cl s
    have iv' : ∀ w ∈ vs, Itm w := fun w hw => iv w (List.mem_cons_of_mem _ hw)
    cases w with
    | some j =>
      have one : l_law_0 (EL rows k z f R o a xsv d t (some j) (some (.int i)) (some v) none) (h0 ++ [Ob.lst acc]) = .nx (EL rows k z f R o a xsv d t (some j) (some (.int i)) (some v) (some (tv rows d v))) (h0 ++ [Ob.lst acc]) := one
      obtain ⟨d', t', q⟩ := lloop tb h3 cs vs (i + 1) d t (some j) acc iv' d0 hw (by omega) (by omega) ua
      exact ⟨d', t', forKL_cons (v := .tup [.int i, v]) rfl one (gc _ acc ua) q⟩
    | none =>
      unfold runD
      cases ht : tld rows d v with
      | none =>
        rw [ht] at one
        have one : l_law_0 (EL rows k z f R o a xsv d t none (some (.int i)) (some v) none) (h0 ++ [Ob.lst acc]) = .nx (EL rows k z f R o a xsv d t (some i) (some (.int i)) (some v) (some (tv rows d v))) (h0 ++ [Ob.lst acc]) := one
        obtain ⟨d', t', q⟩ := lloop tb h3 cs vs (i + 1) d t (some i) acc iv' d0 (fun j e => by cases e; omega) (by omega) (by omega) ua
        refine ⟨d', t', (forKL_cons (v := .tup [.int i, v]) rfl one (gc _ acc ua) q).trans ?_⟩
        show SRes.nx _ (h0 ++ [Ob.lst acc]) = SRes.nx _ (h0 ++ [Ob.lst (acc ++ [])])
        rw [List.append_nil]
      | some q =>
        rw [ht] at one
        have one : l_law_0 (EL rows k z f R o a xsv d t none (some (.int i)) (some v) none) (h0 ++ [Ob.lst acc]) = .nx (EL rows k z f R o a xsv q.1 (t + q.2) none (some (.int i)) (some v) (some (tv rows d v))) (h0 ++ [Ob.lst (acc ++ [pv (q.1, t + q.2)])]) := one
        have ua' : ∀ v ∈ acc ++ [pv (q.1, t + q.2)], v.und 0 = true := fun v hv => by
          rcases List.mem_append.mp hv with hv | hv
          · exact ua v hv
          · rw [List.mem_singleton.mp hv]; rfl
        obtain ⟨d', t', r⟩ := lloop tb h3 cs vs (i + 1) q.1 (t + q.2) none (acc ++ [pv (q.1, t + q.2)]) iv' (tld_nn ht) (fun _ e => by cases e) (by omega) (by rw [List.length_append, List.length_singleton]; omega) ua'
        refine ⟨d', t', (forKL_cons (v := .tup [.int i, v]) rfl one (gc _ _ ua') r).trans ?_⟩
        dsimp only
        rw [List.append_assoc]
        rfl
theorem run_lt (rows : List Row) : ∀ (vs : List Val) (d t : Int) (i j : Nat), (runD rows d t i vs).2 = some j → j < i + vs.length
  | [], _, _, _, _, e => by cases e
  | v :: vs, d, t, i, j, e => by
    unfold runD at e
    rw [List.length_cons]
    cases ht : tld rows d v with
    | none =>
      rw [ht] at e
      cases e
      omega
    | some q =>
      rw [ht] at e
      have := run_lt rows vs q.1 (t + q.2) (i + 1) j e
      omega
end
end K41
end
section
set_option maxRecDepth 100000
set_option maxHeartbeats 1000000
namespace Pn
open PySem L2 Lad Bk Plc
end Pn
end
section
set_option maxRecDepth 100000
set_option maxHeartbeats 1000000
namespace Rw
open PySem L2 Lad Bk Pn
end Rw
end
section
set_option maxRecDepth 100000
set_option maxHeartbeats 1000000
namespace Rw
open PySem L2 Lad Bk Pn
end Rw
end
section
set_option maxRecDepth 100000
set_option maxHeartbeats 1000000
namespace Rw
open PySem L2 Lad Bk Pn
end Rw
end
section
set_option maxRecDepth 10000
set_option maxHeartbeats 1000000
namespace Td
open PySem L2 Lad
open Bk (ress isi_ok allC chain_ok)
end Td
end
section
set_option maxRecDepth 10000
set_option maxHeartbeats 1000000
namespace Lad
open PySem L2
end Lad
namespace Td
open PySem L2 Lad
open Bk (ress isi_ok allC chain_ok)
end Td
end
section
set_option maxRecDepth 10000
set_option maxHeartbeats 1000000
namespace Lad
open PySem L2
theorem undL_all {n : Nat} : ∀ {xs : List Val}, (∀ x ∈ xs, x.und n = true) → undL n xs = true
  | [], _ => by unfold undL; rfl
  | x :: xs, w => by unfold undL; rw [w x List.mem_cons_self, undL_all fun z hz => w z (List.mem_cons_of_mem _ hz)]; rfl
theorem und_noB (n : Nat) : ∀ (k : Nat) (d : Val), noB k d = true → d.und n = true
  | _, .non, _ => by unfold Val.und; rfl
  | _, .int _, _ => by unfold Val.und; rfl
  | _, .str _, _ => by unfold Val.und; rfl
  | k + 1, .tup xs, e => by unfold Val.und; exact undL_all fun x hx => und_noB n k x (List.all_eq_true.mp e x hx)
  | k + 1, .lst xs, e => by unfold Val.und; exact undL_all fun x hx => und_noB n k x (List.all_eq_true.mp e x hx)
  | 0, .tup _, e => by cases e
  | 0, .lst _, e => by cases e
  | 0, .bl _, e => by cases e
  | 0, .dic _ _ _, e => by cases e
  | 0, .obj _ _ _, e => by cases e
  | 0, .ref _, e => by cases e
  | 0, .exn _ _, e => by cases e
  | _ + 1, .bl _, e => by cases e
  | _ + 1, .dic _ _ _, e => by cases e
  | _ + 1, .obj _ _ _, e => by cases e
  | _ + 1, .ref _, e => by cases e
  | _ + 1, .exn _ _, e => by cases e
def Clean (h : Hea) : Prop := ∀ o ∈ h, ∀ n, o.und n = true
theorem Clean.lst {h : Hea} (c : Clean h) {xs : List Val} (k : Nat) (w : xs.all (noB k) = true) : Clean (h ++ [.lst xs]) := by
  intro o ho n
  rcases List.mem_append.mp ho with ho | ho
  · exact c o ho n
  · simp only [List.mem_cons, List.not_mem_nil, or_false] at ho
    rw [ho]
    show undL n xs = true
    exact undL_all fun x hx => und_noB n k x (List.all_eq_true.mp w x hx)
end Lad
namespace Td
open PySem L2 Lad
open Bk (ress isi_ok allC chain_ok)
end Td
end
section
set_option maxRecDepth 10000
set_option maxHeartbeats 1000000
namespace Td
open PySem L2 Lad
open Bk (ress)
end Td
end
section
set_option maxRecDepth 10000
set_option maxHeartbeats 1000000
namespace Td
open PySem L2 Lad
open Bk (ress isi_ok allC chain_ok)
end Td
end
section
set_option maxRecDepth 10000
set_option maxHeartbeats 1000000
namespace Td
open PySem L2 Lad
open Bk (ress isi_ok allC chain_ok)
end Td
end
section
set_option maxRecDepth 10000
set_option maxHeartbeats 1000000
namespace Td
open PySem L2 Lad
open Bk (ress isi_ok allC chain_ok)
end Td
end
section
set_option maxRecDepth 10000
set_option maxHeartbeats 1000000
namespace Td
open PySem L2 Lad
open Bk (ress isi_ok allC chain_ok)
end Td
end
section
set_option maxRecDepth 100000
set_option maxHeartbeats 1000000
namespace Rn
open PySem L2 Lad Td
open Bk (ress isi_ok allC chain_ok)
end Rn
end
section
set_option maxRecDepth 100000
set_option maxHeartbeats 1000000
namespace Rn
open PySem L2 Lad Td
end Rn
end
section
set_option maxRecDepth 100000
set_option maxHeartbeats 1000000
namespace Rn
open PySem L2 Lad Td
open Bk (ress isi_ok allC chain_ok)
end Rn
end
section
set_option maxRecDepth 100000
set_option maxHeartbeats 1000000
namespace Rn
open PySem L2 Lad Td
open Bk (ress isi_ok allC chain_ok)
end Rn
end
section
set_option maxRecDepth 100000
set_option maxHeartbeats 1000000
namespace Rn
open PySem L2 Lad Td
open Bk (ress isi_ok allC chain_ok)
end Rn
end
section
set_option maxRecDepth 100000
set_option maxHeartbeats 1000000
namespace Rn
open PySem L2 Lad Td
open Bk (ress isi_ok allC chain_ok)
end Rn
end
section
set_option maxRecDepth 100000
set_option maxHeartbeats 1000000
namespace Rn
open PySem L2 Lad Td
open Bk (ress isi_ok allC chain_ok)
end Rn
end
section
set_option maxRecDepth 100000
set_option maxHeartbeats 1000000
namespace Rn
open PySem L2 Lad Td
open Bk (ress isi_ok allC chain_ok)
end Rn
end
section
set_option maxRecDepth 100000
set_option maxHeartbeats 1000000
namespace Rn
open PySem L2 Lad Td
open Bk (ress isi_ok allC chain_ok)
end Rn
end
section
set_option maxRecDepth 100000
set_option maxHeartbeats 1000000
namespace Rn
open PySem L2 Lad Td
open Bk (ress isi_ok allC chain_ok)
end Rn
end
section
set_option maxRecDepth 100000
set_option maxHeartbeats 1000000
namespace Wk
open PySem L2 Lad Td Rn
end Wk
end
section
set_option maxRecDepth 100000
set_option maxHeartbeats 1000000
namespace Or
open PySem L2 Lad Bk Wy Cl Wk

theorem cut_tk (xs : List Val) (n : Nat) : cutL xs none (some (n : Int)) = xs.take n := by
  unfold cutL
  rw [HT.sIx_nat, HT.sIx_none, List.drop_zero, Nat.sub_zero]
  by_cases h : n ≤ xs.length
  · rw [Nat.min_eq_left h]
  · rw [Nat.min_eq_right (by omega), List.take_of_length_le (Nat.le_refl _), List.take_of_length_le (by omega)]
theorem cut_dr (xs : List Val) (n : Nat) : cutL xs (some (n : Int)) none = xs.drop n := by
  unfold cutL
  rw [HT.sIx_nat, HT.sIx_none]
  by_cases h : n ≤ xs.length
  · rw [Nat.min_eq_left h, List.take_of_length_le (by rw [List.length_drop]; omega)]
  · rw [Nat.min_eq_right (by omega), List.drop_length, List.drop_eq_nil_of_le (by omega), List.take_nil]
end Or
end
section
set_option maxRecDepth 100000
set_option maxHeartbeats 2000000
namespace K41
open PySem L2 Lad Bk Plc Cl
theorem noB_ent (en : Ent) (n : Nat) : noB (n + 1) (entV en) = true := by
  cases en with
  | none => rfl
  | some q => cases n <;> rfl
theorem noB_row (r : Row) : noB 3 (rowV r) = true := by
  show (([.int r.1, entV r.2.1, entV r.2.2.1, entV r.2.2.2] : List Val).all (noB 2)) = true
  simp [noB_ent, noB]
theorem noB_rows (rows : List Row) : noB 4 (.lst (rows.map rowV)) = true := by
  show ((rows.map rowV).all (noB 3)) = true
  rw [List.all_eq_true]
  intro v hv
  obtain ⟨r, _, rfl⟩ := List.mem_map.mp hv
  exact noB_row r
theorem nxD {D : List Val} (dd : DOk D) : noExL D = true := by
  have : ∀ xs : List Val, DOk xs → noExL xs = true := by
    intro xs
    induction xs with
    | nil => intro _; rfl
    | cons x xs ih =>
      intro ok
      obtain ⟨i, rfl, _⟩ := ok x List.mem_cons_self
      show (true && noExL xs) = true
      rw [ih fun d hd => ok d (List.mem_cons_of_mem _ hd)]
      rfl
  exact this D dd
section
variable {ns : List Int} {D : List Val} {m : Nat} {rows : List Row} {k z f : Int} {R : List Val} {o : Val} {a : Int}
theorem nxC (dd : DOk D) : noExH (Hc ns D m []) = true := by
  show (true && (noExL D && (true && true))) = true
  rw [nxD dd]
  rfl
theorem csC (dd : DOk D) : Cs (Hc ns D m []) := cs_of (t := []) (shutC dd [])
theorem toD_pair {h : Hea} {i : Nat} {xs : List Val} (e : lstAt h i = some xs) (n : Nat) (w : Val) : toD n h (.lst [.ref i, w]) = toD n h (.lst [.lst xs, w]) := by
  cases n with
  | zero => rfl
  | succ n =>
    unfold toD
    simp only [mapO, toD_ref e]
theorem ne_pair {h : Hea} {i : Nat} {xs : List Val} (e : lstAt h i = some xs) {w : Val} {n : Nat} (hd : noB n (.lst [.lst xs, w]) = true) (hn : n ≤ 60) : oNe h (.lst [.lst xs, w]) (.lst [.ref i, w]) = some (.bl false) := by
  have q := ne_eq h n hd hn
  rw [Lad.op_ne] at q ⊢
  have e2 : eqB h (.lst [.lst xs, w]) (.lst [.ref i, w]) = eqB h (.lst [.lst xs, w]) (.lst [.lst xs, w]) := by
    unfold eqB
    rw [toD_pair e]
  rw [e2]
  exact q
theorem und_itm {v : Val} (iv : Itm v) : v.und 0 = true := by
  rcases iv with ⟨s, _, rfl⟩ | ov
  · rfl
  · rcases ov with rfl | rfl | rfl | rfl | rfl | rfl <;> rfl
theorem und_ls {n : Nat} {xs : List Val} (w : ∀ v ∈ xs, v.und 0 = true) : (Val.lst xs).und n = true := by
  unfold Val.und
  exact undL_all fun v hv => und_mono (Nat.zero_le _) v (w v hv)
theorem und_tp {n : Nat} {xs : List Val} (w : ∀ v ∈ xs, v.und 0 = true) : (Val.tup xs).und n = true := by
  unfold Val.und
  exact undL_all fun v hv => und_mono (Nat.zero_le _) v (w v hv)
theorem und_du (rows : List Row) (n : Nat) : (duV rows).und n = true := by
  have u : (Val.tup (rows.map rowV)).und n = true := und_noB n 4 _ (noB_rows rows)
  show (Val.obj 34 [2, 27, 28] [.tup (rows.map rowV), .int (span rows), .int (far rows)]).und n = true
  unfold Val.und
  show undL n [.tup (rows.map rowV), .int (span rows), .int (far rows)] = true
  unfold undL
  rw [u]
  rfl
abbrev EB (rows : List Row) (k z f : Int) (R : List Val) (o : Val) (a : Int) (x10 x11 x12 x13 x14 x15 x16 x17 x18 : Option Val) : En := [some (.ref 0), some (.int k), some (.int z), some (.ref 2), some (.lst (rows.map rowV)), some (.int f), some (duV rows), some (.lst R), some o, some (.int a), x10, x11, x12, x13, x14, x15, x16, x17, x18, none]
theorem noB_due (f : Int) (vs : List Val) (w : Val) (hw : noB 1 w = true) : noB 3 (.lst [.lst (due rows f vs), w]) = true := by
  have a : noB 2 (.lst (due rows f vs)) = true := List.all_eq_true.mpr (pv_data ((f, 0) :: (runD rows f 0 0 vs).1))
  have b : noB 2 w = true := by
    cases w with
    | non => rfl
    | int i => rfl
    | str s => exact hw
    | tup xs =>
      refine List.all_eq_true.mpr fun v hv => ?_
      have := List.all_eq_true.mp hw v hv
      cases v <;> first | rfl | exact this | cases this
    | lst xs =>
      refine List.all_eq_true.mpr fun v hv => ?_
      have := List.all_eq_true.mp hw v hv
      cases v <;> first | rfl | exact this | cases this
    | _ => cases hw
  show ([Val.lst (due rows f vs), w].all (noB 2)) = true
  simp [a, b]
theorem noB_wv {w : Option Nat} (hw : ∀ i, w = some i → i < 12) : noB 1 (wv w) = true := by
  cases w with
  | none => rfl
  | some i =>
    obtain ⟨s, e, ok, _⟩ := wv_ok (hw i rfl)
    rw [e]
    exact ok
/-- one row of results -/
theorem row_ok (dd : DOk D) (tb : TabOk rows) (f0 : 0 ≤ f) (f1 : f < 24) {xsv : Val} {vs : List Val} (iv : ∀ v ∈ vs, Itm v) (lv : vs.length < 12) (hx : xsv = .lst vs ∨ xsv = .tup vs) (hR : ∀ v ∈ R, v.und 0 = true) (ho : o.und 0 = true) :
    ∃ e2 h2, l_law_1 (EB rows k z f R o a (some xsv) none none none none none none none none) (Hc ns D m []) = .nx e2 h2 ∧ gcN [10, 11, 12, 13, 14, 15, 16, 17] 3 e2 h2 = (EB rows k z f R o a none none none none none none none none none, Hc ns D m []) := by
  have cs := csC (ns := ns) (m := m) dd
  have nx := nxC (ns := ns) (m := m) dd
  have hw : ∀ i, (runD rows f 0 0 vs).2 = some i → i < 12 := fun i e => by have := run_lt rows vs f 0 0 i e; omega
  have ud : ∀ v ∈ due rows f vs, v.und 0 = true := fun v hv => und_noB 0 1 v (pv_data ((f, 0) :: (runD rows f 0 0 vs).1) v hv)
  have cs2 : Cs (Hc ns D m [] ++ [Ob.lst (due rows f vs)]) := cs.app fun ob hob => by
    rw [List.mem_singleton.mp hob]
    exact lst_und fun v hv => und_mono (Nat.zero_le _) v (ud v hv)
  have nx2 : noExH (Hc ns D m [] ++ [Ob.lst (due rows f vs)]) = true := noExH_app nx (by
    show (noExL (due rows f vs) && true) = true
    rw [show noExL (due rows f vs) = true from pv_noEx ((f, 0) :: (runD rows f 0 0 vs).1)]
    rfl)
  have hd := heard cs2 nx2 tb f0 f1 iv lv hx hw
  obtain ⟨d', t', lp⟩ := lloop (k := k) (z := z) (f := f) (R := R) (o := o) (a := a) (xsv := xsv) tb (h0 := Hc ns D m []) rfl cs vs 0 f 0 none [pv (f, 0)] iv f0 (fun _ e => by cases e) (by omega) (by rw [List.length_singleton]; omega) (fun v hv => by rw [List.mem_singleton.mp hv]; rfl)
  have lp : forKL (gcN [15, 16, 17] 4) (gT [15, 16]) l_law_0 (enumFrom 0 vs) (EL rows k z f R o a xsv f 0 none none none none) (Hc ns D m [] ++ [Ob.lst [pv (f, 0)]]) = .nx (EL rows k z f R o a xsv d' t' (runD rows f 0 0 vs).2 none none none) (Hc ns D m [] ++ [Ob.lst (due rows f vs)]) := lp
  have src : iEnumS (eVar 10) (EL rows k z f R o a xsv f 0 none none none none) (Hc ns D m [] ++ [Ob.lst [pv (f, 0)]]) = .ok (srcFix (enumFrom 0 vs)) (Hc ns D m [] ++ [Ob.lst [pv (f, 0)]]) := by
    rcases hx with rfl | rfl <;> rfl
  have ux : xsv.und 3 = true := by
    rcases hx with rfl | rfl
    · exact und_ls fun v hv => und_itm (iv v hv)
    · exact und_tp fun v hv => und_itm (iv v hv)
  refine ⟨EL rows k z f R o a xsv d' t' (runD rows f 0 0 vs).2 none none none, Hc ns D m [] ++ [Ob.lst (due rows f vs)], ?_, ?_⟩
  · unfold l_law_1
    refine seq_nx (e1 := EL rows k z f R o a xsv f 0 none none none none) (h1 := Hc ns D m [] ++ [Ob.lst [pv (f, 0)]]) rfl ?_
    refine seq_nx (e1 := EL rows k z f R o a xsv d' t' (runD rows f 0 0 vs).2 none none none) (h1 := Hc ns D m [] ++ [Ob.lst (due rows f vs)]) ((forK_eq src).trans lp) ?_
    refine if_no ?_
    have c1 : eCall c__law_heard (aCons (eVar 6) (aCons (eVar 5) (aCons (eVar 10) aNil))) (EL rows k z f R o a xsv d' t' (runD rows f 0 0 vs).2 none none none) (Hc ns D m [] ++ [Ob.lst (due rows f vs)]) = .ok (.lst [.lst (due rows f vs), wv (runD rows f 0 0 vs).2]) (Hc ns D m [] ++ [Ob.lst (due rows f vs)]) := call_eq (ds := [duV rows, .int f, xsv]) (h1 := Hc ns D m [] ++ [Ob.lst (due rows f vs)]) rfl hd
    refine bin_ok (d2 := .lst [.ref 3, wv (runD rows f 0 0 vs).2]) (h2 := Hc ns D m [] ++ [Ob.lst (due rows f vs)]) c1 rfl ?_
    exact ne_pair (xs := due rows f vs) rfl (noB_due f vs _ (noB_wv hw)) (by decide)
  · have s : shut 3 3 (Hc ns D m [] ++ [Ob.lst (due rows f vs)]) = some (Hc ns D m []) := cs.shut _
    have u : undE 3 (EB rows k z f R o a none none none none none none none none none) = true := by
      have u1 : (Val.lst (rows.map rowV)).und 3 = true := und_noB 3 4 _ (noB_rows rows)
      have u2 := und_du rows 3
      have u3 : (Val.lst R).und 3 = true := und_ls hR
      have u4 : o.und 3 = true := und_mono (Nat.zero_le _) o ho
      simp only [EB, undE, u1, u2, u3, u4]
      rfl
    have w : wipeAll (EL rows k z f R o a xsv d' t' (runD rows f 0 0 vs).2 none none none) [10, 11, 12, 13, 14, 15, 16, 17] = EB rows k z f R o a none none none none none none none none none := by
      simp only [wipeAll, EL, EB, List.set_cons_succ, List.set_cons_zero]
    unfold gcN
    rw [w]
    dsimp only
    rw [if_pos u, s]
theorem repF {v : Val} (no : NoF v) : ∃ s : Str, (∀ h : Hea, gReprD h [v] = some (.str s)) ∧ PyData.strOk s = true := by
  rcases no with rfl | rfl | rfl | rfl
  · exact ⟨"None", fun h => by kernel_rfl, by kernel_rfl⟩
  · exact ⟨"-1", fun h => by kernel_rfl, by kernel_rfl⟩
  · exact ⟨"24", fun h => by kernel_rfl, by kernel_rfl⟩
  · exact ⟨"True", fun h => by kernel_rfl, by kernel_rfl⟩
/-- a wrong first difference -/
theorem no_ok (dd : DOk D) {v : Val} (no : NoF v) (x17 : Option Val) : l_law_2 (EB rows k z f R o a none none none none none none none x17 (some v)) (Hc ns D m []) = .nx (EB rows k z f R o a none none none none none none none x17 (some v)) (Hc ns D m []) := by
  obtain ⟨s, rs, ok⟩ := repF no
  have hd := heard_no (rows := rows) (csC (ns := ns) (m := m) dd) (nxC (ns := ns) (m := m) dd) no (.lst R) rs
  have c1 : eCall c__law_heard (aCons (eVar 6) (aCons (eVar 18) (aCons (eVar 7) aNil))) (EB rows k z f R o a none none none none none none none x17 (some v)) (Hc ns D m []) = .ok (.lst [.lst [], .str s]) (Hc ns D m []) := call_eq (ds := [duV rows, v, .lst R]) (h1 := Hc ns D m []) rfl hd
  unfold l_law_2
  refine if_no ?_
  have c2 : eLst (lDisp (aCons (eLst (lDisp aNil)) (aCons (eCB gReprD (aCons (eVar 18) aNil)) aNil))) (EB rows k z f R o a none none none none none none none x17 (some v)) (Hc ns D m []) = .ok (.lst [.lst [], .str s]) (Hc ns D m []) := by
    have g := rs (Hc ns D m [])
    unfold EB
    generalize Hc ns D m [] = hh at *
    simp (maxSteps := 2000000) (disch := (first | assumption | with_unfolding_all rfl | omega | with_unfolding_all decide)) only [Lad.EV0, Lad.EV1, Lad.EV2, Lad.EV3, Lad.EV4, Lad.EV5, Lad.EV6, Lad.EV7, Lad.EV8, Lad.EV9, List.getElem?_cons_zero, List.getElem?_cons_succ, List.set_cons_zero, List.set_cons_succ, List.map_cons, List.map_nil, List.length_cons, List.length_nil, List.cons_append, List.nil_append, List.replicate_succ, List.replicate_zero, List.zip_cons_cons, List.zip_nil_right, List.zip_nil_left, Option.map_some, Bool.not_true, Bool.not_false, if_true, if_false, if_pos, if_neg, Nat.reduceLeDiff, Int.reduceAdd, Int.reduceSub, Int.reduceNeg, Int.reduceMul, Int.reduceLT, Int.reduceLE, Nat.reduceAdd, Nat.reduceSub, Bool.false_eq_true, reduceIte, and_self, g]
  refine bin_ok c1 c2 (ne_eq _ 2 ?_)
  show ([Val.lst [], Val.str s].all (noB 1)) = true
  simp [noB, ok]
end
end K41
end
section
set_option maxRecDepth 100000
set_option maxHeartbeats 4000000
namespace K41
open PySem L2 Lad Bk Plc Cl
section
variable {ns : List Int} {D : List Val}
/-- draws in a row -/
theorem compL_c {t : Hea} {b : Val → En → Option En} {f : En → Hea → Res Val} {e0 : En} {Q : Val → Prop} : ∀ (vs : List Val) (n : Nat), (∀ v ∈ vs, ∀ n, ∃ e1 d, b v e0 = some e1 ∧ f e1 (Hc ns D n t) = .ok d (Hc ns D (n + 1) t) ∧ Q d) → ∃ (ds : List Val) (m : Nat), compL b eYes f e0 vs (Hc ns D n t) = .ok ds (Hc ns D m t) ∧ ds.length = vs.length ∧ ∀ d ∈ ds, Q d
  | [], n, _ => ⟨[], n, rfl, rfl, fun d hd => by cases hd⟩
  | v :: vs, n, w => by
    obtain ⟨e1, d, a1, a2, q⟩ := w v List.mem_cons_self n
    obtain ⟨ds, m, g, l, qs⟩ := compL_c (b := b) (f := f) (e0 := e0) (Q := Q) vs (n + 1) fun u hu => w u (List.mem_cons_of_mem _ hu)
    refine ⟨d :: ds, m, ?_, by rw [List.length_cons, List.length_cons, l], fun x hx => by rw [List.mem_cons] at hx; exact hx.elim (fun z => z ▸ q) (qs x)⟩
    unfold compL
    rw [a1]
    show (noX (eYes e1 (Hc ns D n t))).bind _ = _
    show ((noX (f e1 (Hc ns D n t))).bind _ : Res (List Val)) = _
    rw [a2]
    show ((compL b eYes f e0 vs (Hc ns D (n + 1) t)).bind _ : Res (List Val)) = _
    rw [g]
    rfl
end
theorem oAddL (h : Hea) (xs ys : List Val) (l : xs.length + ys.length ≤ 16777216) : oAdd h (.lst xs) (.lst ys) = some (.lst (xs ++ ys)) := by
  show (if xs.length + ys.length ≤ 16777216 then _ else _) = _
  rw [if_pos l]
abbrev resC : En → Hea → Res Val := (eLst (lComp [19] (iRng1V (aCons (eCall c__law_draw (aCons (eVar 3) (aCons (eC (.int 9)) aNil))) aNil)) (gN 19) eYes (eCall c__law_pick (aCons (eVar 3) (aCons (eLst (lDisp (aCons (eC (.str "upper")) (aCons (eC (.str "draw")) (aCons (eC (.str "lower")) aNil))))) aNil)))))
abbrev E0 (k z : Int) (x4 x5 x6 x7 x8 x9 : Option Val) : En := [some (.ref 0), some (.int k), some (.int z), some (.ref 2), x4, x5, x6, x7, x8, x9, none, none, none, none, none, none, none, none, none, none]
theorem res_drawn (ns : List Int) {D : List Val} (dd : DOk D) (l : D.length < 1000) (m : Nat) (k z : Int) (x4 x5 x6 : Option Val) : ∃ (R : List Val) (m' : Nat), resC (E0 k z x4 x5 x6 none none none) (Hc ns D m []) = .ok (.lst R) (Hc ns D m' []) ∧ R.length < 9 ∧ ∀ v ∈ R, ∃ s : Str, s ∈ ress ∧ v = .str s := by
  obtain ⟨n, n0, n1, e0⟩ := draw_ok ns dd l m [] 9 (by decide) (by decide)
  obtain ⟨n', rfl⟩ := Int.eq_ofNat_of_zero_le n0
  have hn : n' < 9 := by omega
  have w : ∀ v ∈ rangeV 0 n', ∀ q, ∃ e1 d, gN 19 v (wipeE (E0 k z x4 x5 x6 none none none) [19]) = some e1 ∧ eCall c__law_pick (aCons (eVar 3) (aCons (eLst (lDisp (aCons (eC (.str "upper")) (aCons (eC (.str "draw")) (aCons (eC (.str "lower")) aNil))))) aNil)) e1 (Hc ns D q []) = .ok d (Hc ns D (q + 1) []) ∧ (∃ s : Str, s ∈ ress ∧ d = .str s) := by
    intro v hv q
    obtain ⟨x, hx, e⟩ := pick_ok ns dd l q [] (xs := [.str "upper", .str "draw", .str "lower"]) (by decide) (by decide)
    refine ⟨_, x, rfl, call_eq (ds := [.ref 2, .lst [.str "upper", .str "draw", .str "lower"]]) (h1 := Hc ns D q []) rfl (by rw [q_pick]; exact e), ?_⟩
    simp only [List.mem_cons, List.not_mem_nil, or_false] at hx
    rcases hx with rfl | rfl | rfl
    · exact ⟨_, by decide, rfl⟩
    · exact ⟨_, by decide, rfl⟩
    · exact ⟨_, by decide, rfl⟩
  obtain ⟨R, m', g, lr, q⟩ := compL_c (ns := ns) (D := D) (t := []) (b := gN 19) (e0 := wipeE (E0 k z x4 x5 x6 none none none) [19]) (rangeV 0 n') (m + 1) w
  have lr : R.length = n' := by rw [lr]; unfold rangeV; rw [List.length_map, List.length_range]
  refine ⟨R, m', ?_, by omega, q⟩
  have src : iRng1V (aCons (eCall c__law_draw (aCons (eVar 3) (aCons (eC (.int 9)) aNil))) aNil) (E0 k z x4 x5 x6 none none none) (Hc ns D m []) = .ok (srcFix (rangeV 0 n')) (Hc ns D (m + 1) []) := by
    have a : aCons (eCall c__law_draw (aCons (eVar 3) (aCons (eC (.int 9)) aNil))) aNil (E0 k z x4 x5 x6 none none none) (Hc ns D m []) = .ok [.int n'] (Hc ns D (m + 1) []) := acons_ok (call_eq (ds := [.ref 2, .int 9]) (h1 := Hc ns D m []) rfl (by rw [q_draw]; exact e0)) rfl
    unfold iRng1V
    rw [a, ap_bindOk]
    have n := Int.toNat_natCast n'
    have r := rng_small (show n' < 1000 by omega)
    generalize (n' : Int) = z at *
    show (if rngOk z = true then Res.ok (srcFix (rangeV 0 z.toNat)) _ else .stuck) = _
    rw [if_pos r, n]
  show (lComp _ _ _ _ _ (E0 k z x4 x5 x6 none none none) (Hc ns D m [])).bind _ = _
  rw [comp_eq src (by unfold rangeV; rw [List.length_map, List.length_range]; omega), g]
  rfl
theorem body3 (ns : List Int) (k : Nat) (hk : k < 64) (z : Int) : ∃ e2 h2, l_law_3 [some (.ref 0), some (.int k), some (.int z), none, none, none, none, none, none, none, none, none, none, none, none, none, none, none, none, none] [.fro ns] = .nx e2 h2 ∧ gcN [1, 2, 3, 4, 5, 6, 7, 8, 9, 10, 11, 12, 13, 14, 15, 16, 17, 18] 1 e2 h2 = ([some (.ref 0), none, none, none, none, none, none, none, none, none, none, none, none, none, none, none, none, none, none, none], [.fro ns]) := by
  obtain ⟨D, dd, dl, e0⟩ := pool_ok ns z (4100 + k) (by omega) (by omega)
  have dl' : D.length < 1000 := by omega
  obtain ⟨rows, m0, tb, l2, nr, e1⟩ := rows_ok ns dd dl' 0
  obtain ⟨f, f0, f1, e2⟩ := draw_ok ns dd dl' m0 [] 24 (by decide) (by decide)
  have e3 := init_ok (ns := ns) (D := D) (m := m0 + 1) tb tb.n6 _ (.inl rfl)
  have e3' := fin_du (ns := ns) (m := m0 + 1) (rows := rows) dd
  obtain ⟨R, m1, e4, lR, qR⟩ := res_drawn ns dd dl' (m0 + 1) k z (some (.lst (rows.map rowV))) (some (.int f)) (some (duV rows))
  obtain ⟨o, ho, e5⟩ := pick_ok ns dd dl' m1 [] (xs := [.non, .str "Upper", .int 5, .lst [.str "draw"], .str "one", .tup [.str "lower"]]) (by decide) (by decide)
  have od : Odd o := by
    simp only [List.mem_cons, List.not_mem_nil, or_false] at ho
    rcases ho with h | h | h | h | h | h
    · exact .inl h
    · exact .inr (.inl h)
    · exact .inr (.inr (.inl h))
    · exact .inr (.inr (.inr (.inl h)))
    · exact .inr (.inr (.inr (.inr (.inl h))))
    · exact .inr (.inr (.inr (.inr (.inr h))))
  obtain ⟨a, a0, a1, e6⟩ := draw_ok ns dd dl' (m1 + 1) [] ((R.length : Int) + 1) (by omega) (by omega)
  obtain ⟨a', rfl⟩ := Int.eq_ofNat_of_zero_le a0
  generalize hm : m1 + 1 + 1 = m at *
  have iR : ∀ v ∈ R, Itm v := fun v hv => .inl (qR v hv)
  have uR : ∀ v ∈ R, v.und 0 = true := fun v hv => und_itm (iR v hv)
  have uo : o.und 0 = true := und_itm (.inr od)
  -- the three rows
  have rA := row_ok (ns := ns) (m := m) (k := k) (z := z) (R := R) (o := o) (a := a') dd tb f0 f1 (xsv := .lst R) iR (by omega) (.inl rfl) uR uo
  have rB := row_ok (ns := ns) (m := m) (k := k) (z := z) (R := R) (o := o) (a := a') dd tb f0 f1 (xsv := .tup R) iR (by omega) (.inr rfl) uR uo
  have iC : ∀ v ∈ R.take a' ++ [o] ++ R.drop a', Itm v := fun v hv => by
    rcases List.mem_append.mp hv with hv | hv
    · rcases List.mem_append.mp hv with hv | hv
      · exact iR v (List.mem_of_mem_take hv)
      · rw [List.mem_singleton.mp hv]; exact .inr od
    · exact iR v (List.mem_of_mem_drop hv)
  have lC : (R.take a' ++ [o] ++ R.drop a').length < 12 := by
    rw [List.length_append, List.length_append, List.length_take, List.length_drop, List.length_singleton]
    omega
  have rC := row_ok (ns := ns) (m := m) (k := k) (z := z) (R := R) (o := o) (a := a') dd tb f0 f1 (xsv := .lst (R.take a' ++ [o] ++ R.drop a')) iC lC (.inl rfl) uR uo
  have cs := csC (ns := ns) (m := m) dd
  have nx := nxC (ns := ns) (m := m) dd
  have hw : ∀ i, (runD rows f 0 0 R).2 = some i → i < 12 := fun i e => by have := run_lt rows R f 0 0 i e; omega
  have hd := heard cs nx tb f0 f1 iR (by omega) (.inl rfl) hw
  -- step by step
  have s3 : eCall c__law_pool (aCons (eVar 2) (aCons (eBin oAdd (eC (.int 4100)) (eVar 1)) (aCons (eC (.int 60)) aNil))) [some (.ref 0), some (.int k), some (.int z), none, none, none, none, none, none, none, none, none, none, none, none, none, none, none, none, none] [.fro ns] = .ok (.ref 2) (Hc ns D 0 []) := call_eq (ds := [.int z, .int (4100 + k), .int 60]) (h1 := [.fro ns]) rfl (by rw [q_pool]; exact e0)
  have s4 : sPar [4, 5] (aCons (eCall c__law_duel_rows (aCons (eVar 3) aNil)) (aCons (eCall c__law_draw (aCons (eVar 3) (aCons (eC (.int 24)) aNil))) aNil)) (E0 k z none none none none none none) (Hc ns D 0 []) = .nx (E0 k z (some (.lst (rows.map rowV))) (some (.int f)) none none none none) (Hc ns D (m0 + 1) []) := by
    have a1 : eCall c__law_duel_rows (aCons (eVar 3) aNil) (E0 k z none none none none none none) (Hc ns D 0 []) = .ok (.lst (rows.map rowV)) (Hc ns D m0 []) := call_eq (ds := [.ref 2]) (h1 := Hc ns D 0 []) rfl e1
    have a2 : eCall c__law_draw (aCons (eVar 3) (aCons (eC (.int 24)) aNil)) (E0 k z none none none none none none) (Hc ns D m0 []) = .ok (.int f) (Hc ns D (m0 + 1) []) := call_eq (ds := [.ref 2, .int 24]) (h1 := Hc ns D m0 []) rfl (by rw [q_draw]; exact e2)
    unfold sPar
    rw [acons_ok a1 (acons_ok a2 rfl)]
    rfl
  have s6 : eMake 34 c_Duel___init__ (aCons (eVar 4) aNil) (E0 k z (some (.lst (rows.map rowV))) (some (.int f)) none none none none) (Hc ns D (m0 + 1) []) = .ok (duV rows) (Hc ns D (m0 + 1) []) := by
    show (Res.ok [Val.lst (rows.map rowV)] (Hc ns D (m0 + 1) [])).bind (fun ds h1 => mkEnd fin h1 (c_Duel___init__ (.ref h1.length :: ds) (h1 ++ [.ins 34 []]))) = _
    rw [ap_bindOk]
    show mkEnd fin (Hc ns D (m0 + 1) []) (c_Duel___init__ [.ref 3, .lst (rows.map rowV)] (Hc ns D (m0 + 1) [.ins 34 []])) = _
    rw [e3]
    exact e3'
  have s8 : eCall c__law_pick (aCons (eVar 3) (aCons (eLst (lDisp (aCons (eC .non) (aCons (eC (.str "Upper")) (aCons (eC (.int 5)) (aCons (eLst (lDisp (aCons (eC (.str "draw")) aNil))) (aCons (eC (.str "one")) (aCons (eTup (aCons (eC (.str "lower")) aNil)) aNil)))))))) aNil)) (E0 k z (some (.lst (rows.map rowV))) (some (.int f)) (some (duV rows)) (some (.lst R)) none none) (Hc ns D m1 []) = .ok o (Hc ns D (m1 + 1) []) := call_eq (ds := [.ref 2, .lst [.non, .str "Upper", .int 5, .lst [.str "draw"], .str "one", .tup [.str "lower"]]]) (h1 := Hc ns D m1 []) rfl (by rw [q_pick]; exact e5)
  have s9 : eCall c__law_draw (aCons (eVar 3) (aCons (eBin oAdd (eIt gLen (eVar 7)) (eC (.int 1))) aNil)) (E0 k z (some (.lst (rows.map rowV))) (some (.int f)) (some (duV rows)) (some (.lst R)) (some o) none) (Hc ns D (m1 + 1) []) = .ok (.int a') (Hc ns D m []) := call_eq (ds := [.ref 2, .int ((R.length : Int) + 1)]) (h1 := Hc ns D (m1 + 1) []) rfl (by rw [q_draw]; exact e6)
  have sS : iTmp (lDisp (aCons (eVar 7) (aCons (eIt gTuple (eVar 7)) (aCons (eBin oAdd (eBin oAdd (eCutA (eVar 7) none (some (eVar 9))) (eLst (lDisp (aCons (eVar 8) aNil)))) (eCutA (eVar 7) (some (eVar 9)) none)) aNil)))) (EB rows k z f R o a' none none none none none none none none none) (Hc ns D m []) = .ok (srcFix [.lst R, .tup R, .lst (R.take a' ++ [o] ++ R.drop a')]) (Hc ns D m []) := by
    have c1 := Or.cut_tk R a'
    have c2 := Or.cut_dr R a'
    have ad1 := oAddL (Hc ns D m []) (R.take a') [o] (by rw [List.length_take, List.length_singleton]; omega)
    have ad2 := oAddL (Hc ns D m []) (R.take a' ++ [o]) (R.drop a') (by rw [List.length_append, List.length_take, List.length_drop, List.length_singleton]; omega)
    unfold EB
    generalize (a' : Int) = az at *
    generalize Hc ns D m [] = hh at *
    simp (maxSteps := 2000000) (disch := (first | assumption | with_unfolding_all rfl | omega | with_unfolding_all decide)) only [Lad.EV0, Lad.EV1, Lad.EV2, Lad.EV3, Lad.EV4, Lad.EV5, Lad.EV6, Lad.EV7, Lad.EV8, Lad.EV9, List.getElem?_cons_zero, List.getElem?_cons_succ, List.set_cons_zero, List.set_cons_succ, List.map_cons, List.map_nil, List.length_cons, List.length_nil, List.cons_append, List.nil_append, List.replicate_succ, List.replicate_zero, List.zip_cons_cons, List.zip_nil_right, List.zip_nil_left, Option.map_some, Bool.not_true, Bool.not_false, if_true, if_false, if_pos, if_neg, Nat.reduceLeDiff, Int.reduceAdd, Int.reduceSub, Int.reduceNeg, Int.reduceMul, Int.reduceLT, Int.reduceLE, Nat.reduceAdd, Nat.reduceSub, Bool.false_eq_true, reduceIte, and_self, c1, c2, ↓ad1, ↓ad2]
  have loopA : sForK [10, 11, 12, 13, 14, 15, 16, 17] (iTmp (lDisp (aCons (eVar 7) (aCons (eIt gTuple (eVar 7)) (aCons (eBin oAdd (eBin oAdd (eCutA (eVar 7) none (some (eVar 9))) (eLst (lDisp (aCons (eVar 8) aNil)))) (eCutA (eVar 7) (some (eVar 9)) none)) aNil))))) (gN 10) l_law_1 (EB rows k z f R o a' none none none none none none none none none) (Hc ns D m []) = .nx (EB rows k z f R o a' none none none none none none none none none) (Hc ns D m []) := by
    rw [forK_eq sS]
    refine forKL_const fun v hv => ?_
    simp only [List.mem_cons, List.not_mem_nil, or_false] at hv
    rcases hv with rfl | rfl | rfl
    · obtain ⟨x, y, q1, q2⟩ := rA
      exact ⟨_, x, y, rfl, q1, q2⟩
    · obtain ⟨x, y, q1, q2⟩ := rB
      exact ⟨_, x, y, rfl, q1, q2⟩
    · obtain ⟨x, y, q1, q2⟩ := rC
      exact ⟨_, x, y, rfl, q1, q2⟩
  have s17 : eCall c__law_heard (aCons (eVar 6) (aCons (eVar 5) (aCons (eVar 7) aNil))) (EB rows k z f R o a' none none none none none none none none none) (Hc ns D m []) = .ok (.lst [.lst (due rows f R), wv (runD rows f 0 0 R).2]) (Hc ns D m []) := call_eq (ds := [duV rows, .int f, .lst R]) (h1 := Hc ns D m []) rfl hd
  obtain ⟨W, hW⟩ : ∃ W, Val.lst [.lst (due rows f R), wv (runD rows f 0 0 R).2] = W := ⟨_, rfl⟩
  have sK : eAnd (eBin oIs (eBin oIx (eVar 17) (eC (.int 1))) (eC .non)) (eBin oNe (eCall c__law_kept (aCons (eVar 6) (aCons (eVar 5) (aCons (eVar 7) aNil)))) (eBin oIx (eVar 17) (eC (.int 0)))) (EB rows k z f R o a' none none none none none none none (some W) none) (Hc ns D m []) = .ok (.bl false) (Hc ns D m []) := by
    rw [← hW]
    have c0 : eBin oIs (eBin oIx (eVar 17) (eC (.int 1))) (eC .non) (EB rows k z f R o a' none none none none none none none (some (.lst [.lst (due rows f R), wv (runD rows f 0 0 R).2])) none) (Hc ns D m []) = .ok (.bl (runD rows f 0 0 R).2.isNone) (Hc ns D m []) :=
      bin_ok (d := wv (runD rows f 0 0 R).2) (d2 := .non) (h1 := Hc ns D m []) (h2 := Hc ns D m []) rfl rfl (isW _ hw _)
    cases hn : (runD rows f 0 0 R).2 with
    | some i =>
      rw [hn] at c0
      exact and_no c0
    | none =>
      rw [hn] at c0
      refine and_yes c0 ?_
      have kp := kept cs tb f0 f1 iR (by omega) hn
      refine bin_ok (d := .lst (due rows f R)) (d2 := .lst (due rows f R)) (h1 := Hc ns D m []) (h2 := Hc ns D m []) (call_eq (ds := [duV rows, .int f, .lst R]) (h1 := Hc ns D m []) rfl kp) rfl ?_
      exact ne_eq _ 2 (List.all_eq_true.mpr (pv_data ((f, 0) :: (runD rows f 0 0 R).1)))
  have loopN : sForK [18] (iTmp (lDisp (aCons (eC .non) (aCons (eUn oNeg (eC (.int 1))) (aCons (eC (.int 24)) (aCons (eC (.bl true)) aNil)))))) (gN 18) l_law_2 (EB rows k z f R o a' none none none none none none none (some W) none) (Hc ns D m []) = .nx (EB rows k z f R o a' none none none none none none none (some W) none) (Hc ns D m []) := by
    rw [forK_eq (xs := [.non, .int (-1), .int 24, .bl true]) (h1 := Hc ns D m []) rfl]
    refine forKL_const fun v hv => ?_
    have no : NoF v := by
      simp only [List.mem_cons, List.not_mem_nil, or_false] at hv
      rcases hv with h | h | h | h
      · exact .inl h
      · exact .inr (.inl h)
      · exact .inr (.inr (.inl h))
      · exact .inr (.inr (.inr h))
    exact ⟨_, _, _, rfl, no_ok dd no (some W), gc_cl (shutC dd [])⟩
  refine ⟨EB rows k z f R o a' none none none none none none none (some W) none, Hc ns D m [], ?_, ?_⟩
  · unfold l_law_3
    refine seq_set s3 ?_
    refine seq_nx s4 ?_
    refine seq_set s6 ?_
    refine seq_set e4 ?_
    refine seq_set s8 ?_
    refine seq_set s9 ?_
    refine seq_nx loopA ?_
    refine seq_set (s17.trans (by rw [hW])) ?_
    exact seq_if_no sK loopN
  · have w : wipeAll (EB rows k z f R o a' none none none none none none none (some W) none) [1, 2, 3, 4, 5, 6, 7, 8, 9, 10, 11, 12, 13, 14, 15, 16, 17, 18] = [some (.ref 0), none, none, none, none, none, none, none, none, none, none, none, none, none, none, none, none, none, none, none] := by
      simp only [wipeAll, EB, List.set_cons_succ, List.set_cons_zero]
    unfold gcN
    rw [w]
    rfl
end K41
end
section
set_option maxRecDepth 100000
set_option maxHeartbeats 1000000
namespace K41
open PySem L2 Lad Bk Plc
theorem src_ok (ns : List Int) : ∃ xs : List Val, (∀ v ∈ xs, ∃ (i : Nat) (z : Int), v = .tup [.int i, .int z] ∧ i < 64) ∧ iEnumS (eBin oAdd (eLst (lCut (eVar 0) none (some (eC (.int 3))))) (eBin oMul (eLst (lDisp (aCons (eC (.int 7)) aNil))) (eCB gInt (aCons (eBin oEq (eVar 0) (eLst (lDisp aNil))) aNil)))) (startE 20 [.ref 0]) [.fro ns] = .ok (srcFix xs) [.fro ns] := by
  have e0 : startE 20 [.ref 0] = [some (.ref 0), none, none, none, none, none, none, none, none, none, none, none, none, none, none, none, none, none, none, none] := rfl
  rw [e0]
  cases ns with
  | nil =>
    refine ⟨[.tup [.int 0, .int 7]], ?_, by kernel_rfl⟩
    intro v hv
    simp only [List.mem_cons, List.not_mem_nil, or_false] at hv
    exact ⟨0, 7, hv, by decide⟩
  | cons n ns =>
    have q : oEq [Ob.fro (n :: ns)] (.ref 0) (.lst []) = some (.bl false) := by
      have e : lstAt [Ob.fro (n :: ns)] 0 = some ((n :: ns).map Val.int) := rfl
      have k := eq_other [Ob.fro (n :: ns)] 2 (d := .lst ((n :: ns).map Val.int)) (d' := .lst []) (by simp [noB]) rfl (by simp)
      have w : oEq [Ob.fro (n :: ns)] (.ref 0) (.lst []) = (eqB [Ob.fro (n :: ns)] (.ref 0) (.lst [])).map .bl := rfl
      have w2 : oEq [Ob.fro (n :: ns)] (.lst ((n :: ns).map Val.int)) (.lst []) = (eqB [Ob.fro (n :: ns)] (.lst ((n :: ns).map Val.int)) (.lst [])).map .bl := rfl
      rw [w, eqB_refL e, ← w2, k]
    have l0 : lstOf [Ob.fro (n :: ns)] (.ref 0) = some ((n :: ns).map Val.int) := rfl
    have m0 : oMul [Ob.fro (n :: ns)] (.lst [.int 7]) (.int 0) = some (.lst []) := rfl
    have cl : (cutL ((n :: ns).map Val.int) none (some 3)).length ≤ 3 := by
      unfold cutL
      rw [List.length_take]
      have : HT.sIx ((n :: ns).map Val.int).length ((n :: ns).map Val.int).length (some 3) ≤ 3 := by
        unfold HT.sIx
        dsimp only
        rw [if_neg (by decide)]
        exact Nat.min_le_left _ _
      omega
    have mem : ∀ v ∈ cutL ((n :: ns).map Val.int) none (some 3), ∃ z : Int, v = .int z := by
      intro v hv
      unfold cutL at hv
      have := List.mem_of_mem_drop (List.mem_of_mem_take hv)
      obtain ⟨z, _, rfl⟩ := List.mem_map.mp this
      exact ⟨z, rfl⟩
    obtain ⟨C, hC⟩ : ∃ C, cutL ((n :: ns).map Val.int) none (some 3) = C := ⟨_, rfl⟩
    rw [hC] at cl mem
    have hC' : cutL (.int n :: ns.map Val.int) none (some 3) = C := hC
    have ad : oAdd [Ob.fro (n :: ns)] (.lst C) (.lst []) = some (.lst C) := by
      show (if C.length + 0 ≤ 16777216 then some (Val.lst (C ++ [])) else none) = _
      rw [if_pos (by omega), List.append_nil]
    have go : ∀ C : List Val, C.length ≤ 3 → (∀ v ∈ C, ∃ z : Int, v = .int z) → ∃ xs : List Val, (∀ v ∈ xs, ∃ (i : Nat) (z : Int), v = .tup [.int i, .int z] ∧ i < 64) ∧ srcEnumF C = srcFix xs := by
      intro C hl hm
      refine ⟨_, ?_, rfl⟩
      match C, hl, hm with
      | [], _, _ => intro v hv; cases hv
      | [x], _, hm =>
        obtain ⟨z, rfl⟩ := hm x List.mem_cons_self
        intro v hv
        have hv : v ∈ [Val.tup [.int 0, .int z]] := hv
        simp only [List.mem_cons, List.not_mem_nil, or_false] at hv
        exact ⟨0, z, hv, by decide⟩
      | [x, y], _, hm =>
        obtain ⟨z, rfl⟩ := hm x List.mem_cons_self
        obtain ⟨w, rfl⟩ := hm y (by simp)
        intro v hv
        have hv : v ∈ [Val.tup [.int 0, .int z], .tup [.int 1, .int w]] := hv
        simp only [List.mem_cons, List.not_mem_nil, or_false] at hv
        rcases hv with hv | hv
        · exact ⟨0, z, hv, by decide⟩
        · exact ⟨1, w, hv, by decide⟩
      | [x, y, u], _, hm =>
        obtain ⟨z, rfl⟩ := hm x List.mem_cons_self
        obtain ⟨w, rfl⟩ := hm y (by simp)
        obtain ⟨q, rfl⟩ := hm u (by simp)
        intro v hv
        have hv : v ∈ [Val.tup [.int 0, .int z], .tup [.int 1, .int w], .tup [.int 2, .int q]] := hv
        simp only [List.mem_cons, List.not_mem_nil, or_false] at hv
        rcases hv with hv | hv | hv
        · exact ⟨0, z, hv, by decide⟩
        · exact ⟨1, w, hv, by decide⟩
        · exact ⟨2, q, hv, by decide⟩
      | _ :: _ :: _ :: _ :: _, hl, _ => simp at hl
    obtain ⟨xs, hx, ex⟩ := go C cl mem
    refine ⟨xs, hx, ?_⟩
    rw [← ex]
    simp (maxSteps := 2000000) (disch := (first | assumption | with_unfolding_all rfl | omega | with_unfolding_all decide)) only [Lad.EV0, Lad.EV1, Lad.EV2, Lad.EV3, Lad.EV4, Lad.EV5, Lad.EV6, Lad.EV7, Lad.EV8, Lad.EV9, List.getElem?_cons_zero, List.getElem?_cons_succ, List.set_cons_zero, List.set_cons_succ, List.map_cons, List.map_nil, List.length_cons, List.length_nil, List.cons_append, List.nil_append, List.replicate_succ, List.replicate_zero, List.zip_cons_cons, List.zip_nil_right, List.zip_nil_left, Option.map_some, Bool.not_true, Bool.not_false, if_true, if_false, if_pos, if_neg, Nat.reduceLeDiff, Int.reduceAdd, Int.reduceSub, Int.reduceNeg, Int.reduceMul, Int.reduceLT, Int.reduceLE, Nat.reduceAdd, Nat.reduceSub, Bool.false_eq_true, reduceIte, and_self, ↓q, l0, m0, hC', ↓ad]
    rfl
theorem plain : Plain := by
  intro ns hl
  refine ⟨[.fro ns], (run_rt (fn := fin) (d := .bl true) (h' := [.fro ns]) rfl ?_).trans (fin_same _ _)⟩
  unfold b_law
  refine seq_nx (e1 := startE 20 [.ref 0]) (h1 := [.fro ns]) ?_ rfl
  obtain ⟨xs, hx, e⟩ := src_ok ns
  rw [forK_eq e]
  refine forKL_const fun v hv => ?_
  obtain ⟨i, z, rfl, hi⟩ := hx v hv
  obtain ⟨e2, h2, eb, el⟩ := body3 ns i hi z
  exact ⟨_, e2, h2, rfl, eb, el⟩
end K41
end
theorem PySem.Challenge.cw_liftedladders_k41_whole_plays_of_duels_holds : PySem.Challenge.rw_liftedladders_k41_whole_plays_of_duels.Holds :=
  K41.holds_of K41.plain
