import PyProof.Rows.All
import HandS.ForMost
import HandS.Wide
import HandS.TupAny
import HandS.TupMul
import HandS.TupLe
import HandS.Deep
import HandS.Style
import HandS.Star
import HandS.NoneIn
import HandS.Iter
import KE.GoesEnum
import HandS.Walk
import HandS.Defaults
import HandS.IsInst
import HandS.SortInts
import HandS.Conv
import HandS.Comp
import HandS.Dict
import HandS.SetFor
import HandS.Zip
import HandS.Set
import HandS.Ends
import HandS.Words
import PySem.Challenge.RW_walkedtogether_k56_whole_powers_in_field
set_option Elab.async false
set_option linter.all false
set_option maxRecDepth 100000
set_option maxHeartbeats 8000000
namespace RL
open PySem PySem.Spec PyProof.Rows L2

abbrev D := PyData

/-! ### plain data at a value; F: the tracked addresses that never change any more -/
def WrL (K : PySem.W.Frag) (a : Addr) (xs : List V) : Prop :=
  ∃ (o : Obj) (its : Array Value) (n : Nat), K.lookup a = some o ∧ o.cls = .type "list" ∧ o.dict = none ∧ o.data = .seq its n ∧ its.size ≤ sizeLine ∧ Vals xs its.toList
def WrT (K : PySem.W.Frag) (a : Addr) (xs : List V) : Prop :=
  ∃ (o : Obj) (its : Array Value) (n : Nat), K.lookup a = some o ∧ o.cls = .type "tuple" ∧ o.data = .seq its n ∧ its.size ≤ sizeLine ∧ Vals xs its.toList
def FL (F : Addr → Prop) (H : Hp) (a : Addr) (xs : List V) : Prop := F a ∧ H a = some (.lst xs)
/-- a list that is only read: the script -/
def FO (K : PySem.W.Frag) (F : Addr → Prop) (H : Hp) (a : Addr) (xs : List V) : Prop := (F a ∧ ∃ o, H a = some (.frz o (.lst xs))) ∨ WrL K a xs
def FT (K : PySem.W.Frag) (F : Addr → Prop) (H : Hp) (a : Addr) (xs : List V) : Prop := (F a ∧ H a = some (.tup xs)) ∨ WrT K a xs

mutual
inductive Rp (K : PySem.W.Frag) (F : Addr → Prop) (H : Hp) : V → D → Prop
  | non : Rp K F H .non .none
  | bl (b : Bool) : Rp K F H (.bl b) (.bool b)
  | int (i : Int) : Rp K F H (.int i) (.int i)
  | str (x : Str) : Rp K F H (.str x) (.str x)
  | lst {a : Addr} {xs : List V} {ds : List D} : FL F H a xs → RpAll K F H xs ds → Rp K F H (.ref a) (.list ds)
  | tup {a : Addr} {xs : List V} {ds : List D} : FT K F H a xs → RpAll K F H xs ds → Rp K F H (.ref a) (.tuple ds)
  /-- the script, told by this mark -/
  | ro {a : Addr} {xs : List V} {ds : List D} : FO K F H a xs → RpAll K F H xs ds → Rp K F H (.ref a) (.dict [(.none, .list ds)])
inductive RpAll (K : PySem.W.Frag) (F : Addr → Prop) (H : Hp) : List V → List D → Prop
  | nil : RpAll K F H [] []
  | cons {v : V} {vs : List V} {d : D} {ds : List D} : Rp K F H v d → RpAll K F H vs ds → RpAll K F H (v :: vs) (d :: ds)
end

section
variable {K : PySem.W.Frag} {F F' : Addr → Prop} {H H' : Hp}

theorem RpAll.length : ∀ {vs : List V} {ds : List D}, RpAll K F H vs ds → vs.length = ds.length
  | _, _, .nil => rfl
  | _, _, .cons _ t => congrArg (· + 1) t.length
theorem RpAll.get : ∀ {vs : List V} {ds : List D} {i : Nat} {v : V}, RpAll K F H vs ds → vs[i]? = some v → ∃ d, ds[i]? = some d ∧ Rp K F H v d
  | _, _, i, _, .nil, e => by simp at e
  | _, _, 0, _, .cons r _, e => by simp at e; subst e; exact ⟨_, rfl, r⟩
  | _, _, i + 1, _, .cons _ t, e => by simpa using RpAll.get (i := i) t (by simpa using e)
theorem RpAll.getD : ∀ {vs : List V} {ds : List D} {i : Nat} {d : D}, RpAll K F H vs ds → ds[i]? = some d → ∃ v, vs[i]? = some v ∧ Rp K F H v d
  | _, _, i, _, .nil, e => by simp at e
  | _, _, 0, _, .cons r _, e => by simp at e; subst e; exact ⟨_, rfl, r⟩
  | _, _, i + 1, _, .cons _ t, e => by simpa using RpAll.getD (i := i) t (by simpa using e)
theorem RpAll.append : ∀ {vs ws : List V} {ds es : List D}, RpAll K F H vs ds → RpAll K F H ws es → RpAll K F H (vs ++ ws) (ds ++ es)
  | _, _, _, _, .nil, s => s
  | _, _, _, _, .cons r t, s => .cons r (t.append s)
theorem RpAll.take : ∀ {vs : List V} {ds : List D} (n : Nat), RpAll K F H vs ds → RpAll K F H (vs.take n) (ds.take n)
  | _, _, 0, _ => by simpa using RpAll.nil
  | _, _, n + 1, .nil => by simpa using RpAll.nil
  | _, _, n + 1, .cons r t => by simpa using RpAll.cons r (t.take n)
theorem RpAll.drop : ∀ {vs : List V} {ds : List D} (n : Nat), RpAll K F H vs ds → RpAll K F H (vs.drop n) (ds.drop n)
  | _, _, 0, r => by simpa using r
  | _, _, n + 1, .nil => by simpa using RpAll.nil
  | _, _, n + 1, .cons r t => by simpa using t.drop n
theorem RpAll.set : ∀ {vs : List V} {ds : List D} (n : Nat) {v : V} {d : D}, RpAll K F H vs ds → Rp K F H v d → RpAll K F H (vs.set n v) (ds.set n d)
  | _, _, _, _, _, .nil, _ => by simpa using RpAll.nil
  | _, _, 0, _, _, .cons _ t, q => by simpa using RpAll.cons q t
  | _, _, n + 1, _, _, .cons r t, q => by simpa using RpAll.cons r (t.set n q)
theorem RpAll.reverse : ∀ {vs : List V} {ds : List D}, RpAll K F H vs ds → RpAll K F H vs.reverse ds.reverse
  | _, _, .nil => .nil
  | _, _, .cons r t => by simpa using t.reverse.append (.cons r .nil)
theorem RpAll.eraseIdx : ∀ {vs : List V} {ds : List D} (n : Nat), RpAll K F H vs ds → RpAll K F H (vs.eraseIdx n) (ds.eraseIdx n)
  | _, _, _, .nil => by simpa using RpAll.nil
  | _, _, 0, .cons _ t => by simpa using t
  | _, _, n + 1, .cons r t => by simpa using RpAll.cons r (t.eraseIdx n)
theorem RpAll.dropLast : ∀ {vs : List V} {ds : List D}, RpAll K F H vs ds → RpAll K F H vs.dropLast ds.dropLast
  | _, _, .nil => .nil
  | _, _, .cons _ .nil => .nil
  | _, _, .cons r (.cons r' t) => by simpa using RpAll.cons r (RpAll.dropLast (.cons r' t))

/-- what data lean on -/
def Stay (F : Addr → Prop) (H : Hp) (F' : Addr → Prop) (H' : Hp) : Prop := ∀ b o, F b → H b = some o → F' b ∧ H' b = some o
theorem FL.stay {a : Addr} {xs : List V} (s : Stay F H F' H') (h : FL F H a xs) : FL F' H' a xs := s a _ h.1 h.2
theorem FO.stay {a : Addr} {xs : List V} (s : Stay F H F' H') (h : FO K F H a xs) : FO K F' H' a xs := by
  rcases h with ⟨f, o, h⟩ | h
  · exact .inl ⟨(s a _ f h).1, o, (s a _ f h).2⟩
  · exact .inr h
theorem FT.stay {a : Addr} {xs : List V} (s : Stay F H F' H') (h : FT K F H a xs) : FT K F' H' a xs := by
  rcases h with ⟨f, h⟩ | h
  · exact .inl (s a _ f h)
  · exact .inr h
mutual
theorem Rp.stay (s : Stay F H F' H') : ∀ {v : V} {d : D}, Rp K F H v d → Rp K F' H' v d
  | _, _, .non => .non
  | _, _, .bl b => .bl b
  | _, _, .int i => .int i
  | _, _, .str x => .str x
  | _, _, .lst h t => .lst (h.stay s) (RpAll.stay s t)
  | _, _, .tup h t => .tup (h.stay s) (RpAll.stay s t)
  | _, _, .ro h t => .ro (h.stay s) (RpAll.stay s t)
theorem RpAll.stay (s : Stay F H F' H') : ∀ {vs : List V} {ds : List D}, RpAll K F H vs ds → RpAll K F' H' vs ds
  | _, _, .nil => .nil
  | _, _, .cons r t => .cons (Rp.stay s r) (RpAll.stay s t)
end
theorem FL.seq {a : Addr} {xs : List V} (h : FL F H a xs) : SqL K H a xs := .inl (.inl h.2)
theorem FO.seq {a : Addr} {xs : List V} (h : FO K F H a xs) : SqL K H a xs := by
  rcases h with ⟨_, h⟩ | h
  · exact .inl (.inr h)
  · exact .inr h
theorem FT.seq {a : Addr} {xs : List V} (h : FT K F H a xs) : SqT K H a xs := by
  rcases h with ⟨_, h⟩ | h
  · exact .inl (.inl h)
  · exact .inr h
theorem canLayAll_cons {d : D} {ds : List D} (h : PyData.canLayAll0 (d :: ds) = true) : d.canLay0 = true ∧ PyData.canLayAll0 ds = true := by simpa [PyData.canLayAll0] using h
mutual
theorem Rp.dp : ∀ {v : V} {d : D}, d.canLay0 = true → Rp K F H v d → Dp K H v d
  | _, _, _, .non => .non
  | _, _, _, .bl b => .bl b
  | _, _, _, .int i => .int i
  | _, _, _, .str x => .str x
  | _, _, c, .lst h t => .lst h.seq (RpAll.dp (by simpa [PyData.canLay0] using c) t)
  | _, _, c, .tup h t => .tup h.seq (RpAll.dp (by simpa [PyData.canLay0] using c) t)
  | _, _, c, .ro h t => by simp [PyData.canLay0] at c
theorem RpAll.dp : ∀ {vs : List V} {ds : List D}, PyData.canLayAll0 ds = true → RpAll K F H vs ds → DpAll K H vs ds
  | _, _, _, .nil => .nil
  | _, _, c, .cons r t => .cons (Rp.dp (canLayAll_cons c).1 r) (RpAll.dp (canLayAll_cons c).2 t)
end
end

/-! ### slots -/
/-- an object that one name alone holds -/
inductive OO where
  | lst (ds : List D)
  /-- a dict by ints and texts; one by tuples of them -/
  | dk (kvs : List (Key × D))
  | dt (kvs : List (List Key × D))
inductive Sl where
  | nil
  | val (d : D)
  /-- io: the caller's own object, lent; lk: a loop walks it -/
  | own (io lk : Bool) (o : OO)
inductive Rv where
  | d (x : D)
  /-- a new object, nobody's yet -/
  | fr (o : OO)
  /-- what the i-th slot holds -/
  | sl (i : Nat)

def OOk (K : PySem.W.Frag) (F : Addr → Prop) (H : Hp) (a : Addr) : OO → Prop
  | .lst ds => ∃ vs, H a = some (.lst vs) ∧ RpAll K F H vs ds
  | .dk kvs => ∃ ws : List (Key × V), H a = some (.dK ws) ∧ ws.map (·.1) = kvs.map (·.1) ∧ RpAll K F H (ws.map (·.2)) (kvs.map (·.2))
  | .dt kvs => ∃ ws : List (List Key × V), H a = some (.dT ws) ∧ ws.map (·.1) = kvs.map (·.1) ∧ RpAll K F H (ws.map (·.2)) (kvs.map (·.2))
def SlOk (K : PySem.W.Frag) (F : Addr → Prop) (A : Nat → Option Addr) (H : Hp) (i : Nat) (x : Option (Option V)) : Sl → Prop
  | .nil => True
  | .val d => ∃ v, x = some (some v) ∧ Rp K F H v d
  | .own _ _ o => ∃ a, x = some (some (.ref a)) ∧ A i = some a ∧ OOk K F H a o
structure Rel (K : PySem.W.Frag) (F : Addr → Prop) (A : Nat → Option Addr) (sl : List Sl) (σ : L2.St) (H : Hp) : Prop where
  len : sl.length = σ.length
  slot : ∀ i s, sl[i]? = some s → SlOk K F A H i (σ[i]?) s
  own : ∀ i a, A i = some a → ¬ F a ∧ ∃ o, H a = some o
  inj : ∀ i j a, A i = some a → A j = some a → i = j
  frz : ∀ a, F a → ∃ o, H a = some o
structure Ext (F : Addr → Prop) (A : Nat → Option Addr) (sl : List Sl) (H : Hp) (F' : Addr → Prop) (A' : Nat → Option Addr) (sl' : List Sl) (H' : Hp) : Prop where
  mono : ∀ a, F a → F' a
  keep : ∀ b o, H b = some o → (∀ i, A i ≠ some b) → H' b = some o
  fz : ∀ b, F' b → F b ∨ H b = none ∨ ∃ i, A i = some b
  ow : ∀ i b, A' i = some b → (∃ j, A j = some b) ∨ H b = none
  io : ∀ i io lk o, sl[i]? = some (.own io lk o) → (io = true ∨ lk = true) → A' i = A i ∧ ∃ o', sl'[i]? = some (.own io lk o') ∧ (lk = true → o' = o)
  there : ∀ i b, A i = some b → ∃ o, H' b = some o
def RvOk (K : PySem.W.Frag) (F : Addr → Prop) (A : Nat → Option Addr) (H : Hp) (σ : L2.St) (v : V) : Rv → Prop
  | .d x => Rp K F H v x
  | .fr o => ∃ a, v = .ref a ∧ OOk K F H a o ∧ ¬ F a ∧ ∀ i, A i ≠ some a
  | .sl i => σ[i]? = some (some v)
def NewOf (H : Hp) (v : V) : Rv → Prop
  | .fr _ => ∀ a, v = .ref a → H a = none
  | _ => True

section
variable {K : PySem.W.Frag} {F F' F1 F2 : Addr → Prop} {A A' A1 A2 : Nat → Option Addr} {sl sl' sl1 sl2 : List Sl} {σ : L2.St} {H H' H1 H2 : Hp}
theorem Ext.refl (r : Rel K F A sl σ H) : Ext F A sl H F A sl H :=
  ⟨fun _ h => h, fun _ _ h _ => h, fun _ h => .inl h, fun i _ h => .inl ⟨i, h⟩, fun i io lk o h _ => ⟨rfl, o, h, fun _ => rfl⟩, fun i b h => (r.own i b h).2⟩
theorem Ext.back {b : Addr} (e : Ext F A sl H F1 A1 sl1 H1) (h : H1 b = none) : H b = none ∨ ∃ i, A i = some b := by
  cases q : H b with
  | none => exact .inl rfl
  | some o =>
    by_cases k : ∃ i, A i = some b
    · exact .inr k
    · have := e.keep b o q (fun i z => k ⟨i, z⟩)
      rw [h] at this; cases this
theorem Ext.trans (e : Ext F A sl H F1 A1 sl1 H1) (g : Ext F1 A1 sl1 H1 F2 A2 sl2 H2) : Ext F A sl H F2 A2 sl2 H2 where
  mono := fun a h => g.mono a (e.mono a h)
  keep := fun b o h k => g.keep b o (e.keep b o h k) fun i z => by
    rcases e.ow i b z with ⟨j, q⟩ | q
    · exact k j q
    · rw [h] at q; cases q
  fz := fun b h => by
    rcases g.fz b h with q | q | ⟨i, q⟩
    · exact e.fz b q
    · exact .inr (e.back q)
    · rcases e.ow i b q with z | z
      · exact .inr (.inr z)
      · exact .inr (.inl z)
  ow := fun i b h => by
    rcases g.ow i b h with ⟨j, q⟩ | q
    · exact e.ow j b q
    · exact (e.back q).symm
  io := fun i io lk o h z => by
    obtain ⟨q1, o1, q2, q3⟩ := e.io i io lk o h z
    obtain ⟨p1, o2, p2, p3⟩ := g.io i io lk o1 q2 z
    exact ⟨p1.trans q1, o2, p2, fun w => (p3 w).trans (q3 w)⟩
  there := fun i b h => by
    obtain ⟨o, q⟩ := e.there i b h
    by_cases k : ∃ j, A1 j = some b
    · obtain ⟨j, z⟩ := k
      exact g.there j b z
    · exact ⟨o, g.keep b o q fun j z => k ⟨j, z⟩⟩
theorem Rel.nof (r : Rel K F A sl σ H) {b : Addr} (f : F b) : ∀ i, A i ≠ some b := fun i z => (r.own i b z).1 f
theorem Rel.stay (r : Rel K F A sl σ H) (e : Ext F A sl H F' A' sl' H') : Stay F H F' H' := fun b o f h => ⟨e.mono b f, e.keep b o h (r.nof f)⟩
theorem OOk.ex {a : Addr} : ∀ {o : OO}, OOk K F H a o → ∃ u, H a = some u
  | .lst _, ⟨_, h, _⟩ => ⟨_, h⟩
  | .dk _, ⟨_, h, _⟩ => ⟨_, h⟩
  | .dt _, ⟨_, h, _⟩ => ⟨_, h⟩
theorem OOk.stay {a : Addr} {o : OO} (h : OOk K F H a o) (s : Stay F H F' H') (k : ∀ u, H a = some u → H' a = some u) : OOk K F' H' a o := by
  cases o with
  | lst ds => obtain ⟨vs, e, r⟩ := h; exact ⟨vs, k _ e, r.stay s⟩
  | dk kvs => obtain ⟨ws, e, q, r⟩ := h; exact ⟨ws, k _ e, q, r.stay s⟩
  | dt kvs => obtain ⟨ws, e, q, r⟩ := h; exact ⟨ws, k _ e, q, r.stay s⟩
theorem RvOk.ext {v : V} {x : Rv} (r : Rel K F A sl σ H) (e : Ext F A sl H F' A' sl' H') (h : RvOk K F A H σ v x) : RvOk K F' A' H' σ v x := by
  cases x with
  | d x => exact Rp.stay (r.stay e) h
  | sl i => exact h
  | fr o =>
    obtain ⟨a, rfl, q, nf, na⟩ := h
    obtain ⟨u, hu⟩ := q.ex
    refine ⟨a, rfl, q.stay (r.stay e) (fun u h => e.keep a u h na), fun f => ?_, fun i z => ?_⟩
    · rcases e.fz a f with z | z | ⟨i, z⟩
      · exact nf z
      · rw [hu] at z; cases z
      · exact na i z
    · rcases e.ow i a z with ⟨j, z⟩ | z
      · exact na j z
      · rw [hu] at z; cases z
theorem NewOf.ext {v : V} {x : Rv} (e : Ext F A sl H F1 A1 sl1 H1) (h : NewOf H1 v x) : NewOf H v x := by
  cases x with
  | d _ => trivial
  | sl _ => trivial
  | fr o =>
    intro a e1
    rcases e.back (h a e1) with q | ⟨i, q⟩
    · exact q
    · obtain ⟨o, z⟩ := e.there i a q
      rw [h a e1] at z; cases z
end
end RL
namespace RL
open PySem PySem.Spec L2

/-! ### programs over slots -/
def M (α : Type) : Type := List Sl → Option (α × List Sl)
def M.pure {α : Type} (a : α) : M α := fun sl => some (a, sl)
def M.bind {α β : Type} (m : M α) (f : α → M β) : M β := fun sl => (m sl).bind fun p => f p.1 p.2
instance : Monad M where
  pure := M.pure
  bind := M.bind
theorem bind_some {α β : Type} {m : M α} {f : α → M β} {sl sl' : List Sl} {b : β} (h : (m >>= f) sl = some (b, sl')) : ∃ a sl1, m sl = some (a, sl1) ∧ f a sl1 = some (b, sl') := by
  have h' : (m sl).bind (fun p => f p.1 p.2) = some (b, sl') := h
  cases e : m sl with
  | none => rw [e] at h'; cases h'
  | some p => rw [e] at h'; exact ⟨p.1, p.2, rfl, h'⟩
theorem bind_run {α β : Type} {m : M α} {f : α → M β} {sl sl1 : List Sl} {a : α} (h : m sl = some (a, sl1)) : (m >>= f) sl = f a sl1 := by
  show (m sl).bind (fun p => f p.1 p.2) = _
  rw [h]; rfl
theorem pure_some {α : Type} {a b : α} {sl sl' : List Sl} (h : (Pure.pure a : M α) sl = some (b, sl')) : b = a ∧ sl' = sl := by
  have h' : some (a, sl) = some (b, sl') := h
  cases h'; exact ⟨rfl, rfl⟩
/-- a partial value -/
def opt {α : Type} (o : Option α) : M α := fun sl => o.map fun a => (a, sl)
theorem opt_some {α : Type} {o : Option α} {b : α} {sl sl' : List Sl} (h : opt o sl = some (b, sl')) : o = some b ∧ sl' = sl := by
  unfold opt at h
  cases o with
  | none => cases h
  | some a => cases h; exact ⟨rfl, rfl⟩

/-- what stands there, looked at -/
def peek : Rv → M D
  | .d x => fun sl => some (x, sl)
  | .fr (.lst ds) => fun sl => some (.list ds, sl)
  | .fr _ => fun _ => none
  | .sl i => fun sl => match sl[i]? with
    | some (.val d) => some (d, sl)
    | some (.own _ _ (.lst ds)) => some (.list ds, sl)
    | _ => none
/-- what stands there, for good: nobody changes it any more -/
def take : Rv → M D
  | .d x => fun sl => some (x, sl)
  | .fr (.lst ds) => fun sl => some (.list ds, sl)
  | .fr _ => fun _ => none
  | .sl i => fun sl => match sl[i]? with
    | some (.val d) => some (d, sl)
    | some (.own false false (.lst ds)) => some (.list ds, sl.set i (.val (.list ds)))
    | _ => none

section
variable {K : PySem.W.Frag} {F F' F0 F1 F2 : Addr → Prop} {A A' A0 A1 A2 : Nat → Option Addr} {sl sl' sl0 sl1 sl2 : List Sl} {σ : L2.St} {H H' H0 H1 H2 : Hp}

/-- data, or the list that one name holds -/
def Pk (K : PySem.W.Frag) (F : Addr → Prop) (H : Hp) (v : V) (d : D) : Prop :=
  Rp K F H v d ∨ ∃ a vs ds, v = .ref a ∧ d = .list ds ∧ H a = some (.lst vs) ∧ RpAll K F H vs ds
theorem Pk.dp {v : V} {d : D} (c : d.canLay0 = true) (h : Pk K F H v d) : Dp K H v d := by
  rcases h with h | ⟨a, vs, ds, rfl, rfl, e, r⟩
  · exact h.dp c
  · exact .lst (.inl (.inl e)) (RpAll.dp (by simpa [PyData.canLay0] using c) r)
theorem Pk.list {v : V} {ds : List D} (h : Pk K F H v (.list ds)) : ∃ a vs, v = .ref a ∧ H a = some (.lst vs) ∧ RpAll K F H vs ds := by
  rcases h with h | ⟨a, vs, ds', rfl, e, q, r⟩
  · cases h with
    | lst h t => exact ⟨_, _, rfl, h.2, t⟩
  · cases e; exact ⟨a, vs, rfl, q, r⟩
theorem Rp.tuple {v : V} {ds : List D} (h : Rp K F H v (.tuple ds)) : ∃ a vs, v = .ref a ∧ SqT K H a vs ∧ RpAll K F H vs ds := by
  cases h with
  | tup h t => exact ⟨_, _, rfl, h.seq, t⟩
theorem Pk.tuple {v : V} {ds : List D} (h : Pk K F H v (.tuple ds)) : ∃ a vs, v = .ref a ∧ SqT K H a vs ∧ RpAll K F H vs ds := by
  rcases h with h | ⟨a, vs, ds', rfl, e, q, r⟩
  · exact h.tuple
  · cases e
theorem Pk.int {v : V} {i : Int} (h : Pk K F H v (.int i)) : v = .int i := by
  rcases h with h | ⟨a, vs, ds', rfl, e, q, r⟩
  · cases h; rfl
  · cases e
theorem Pk.rpTup {v : V} {ds : List D} (h : Pk K F H v (.tuple ds)) : Rp K F H v (.tuple ds) := by
  rcases h with h | ⟨a, vs, ds', rfl, e, q, r⟩
  · exact h
  · cases e
theorem Pk.str {v : V} {i : Str} (h : Pk K F H v (.str i)) : v = .str i := by
  rcases h with h | ⟨a, vs, ds', rfl, e, q, r⟩
  · cases h; rfl
  · cases e
theorem Pk.bl {v : V} {i : Bool} (h : Pk K F H v (.bool i)) : v = .bl i := by
  rcases h with h | ⟨a, vs, ds', rfl, e, q, r⟩
  · cases h; rfl
  · cases e
theorem Pk.none_iff {v : V} {d : D} (h : Pk K F H v d) : v = .non ↔ d = .none := by
  rcases h with h | ⟨a, vs, ds', rfl, rfl, q, r⟩
  · cases h <;> simp
  · simp
theorem Rp.eqInt {v : V} {i : Int} (h : Rp K F H v (.int i)) : v = .int i := by cases h; rfl
theorem Rp.eqBl {v : V} {b : Bool} (h : Rp K F H v (.bool b)) : v = .bl b := by cases h; rfl
theorem Rp.eqStr {v : V} {x : Str} (h : Rp K F H v (.str x)) : v = .str x := by cases h; rfl
theorem Rp.eqNon {v : V} (h : Rp K F H v .none) : v = .non := by cases h; rfl

theorem peek_ok {v : V} {x : Rv} {d : D} (r : Rel K F A sl σ H) (ok : RvOk K F A H σ v x) (h : peek x sl = some (d, sl')) : sl' = sl ∧ Pk K F H v d := by
  cases x with
  | d x => cases h; exact ⟨rfl, .inl ok⟩
  | fr o =>
    cases o with
    | dk _ => cases h
    | dt _ => cases h
    | lst ds =>
      cases h
      obtain ⟨a, rfl, ⟨vs, e, q⟩, _⟩ := ok
      exact ⟨rfl, .inr ⟨a, vs, ds, rfl, rfl, e, q⟩⟩
  | sl i =>
    have ok' : σ[i]? = some (some v) := ok
    unfold peek at h
    cases e : sl[i]? with
    | none => simp [e] at h
    | some s =>
      have so := r.slot i s e
      rw [ok'] at so
      cases s with
      | nil => simp [e] at h
      | val d' =>
        simp [e] at h
        obtain ⟨rfl, rfl⟩ := h
        obtain ⟨v', e1, q⟩ := so
        cases e1
        exact ⟨rfl, .inl q⟩
      | own io lk o =>
        cases o with
        | dk _ => simp [e] at h
        | dt _ => simp [e] at h
        | lst ds =>
          simp [e] at h
          obtain ⟨rfl, rfl⟩ := h
          obtain ⟨a, e1, _, vs, e2, q⟩ := so
          cases e1
          exact ⟨rfl, .inr ⟨a, vs, ds, rfl, rfl, e2, q⟩⟩

/-- one more address that stays -/
def plus1 (F : Addr → Prop) (a : Addr) : Addr → Prop := fun b => F b ∨ b = a
theorem stay_plus {a : Addr} : Stay F H (plus1 F a) H := fun b o f h => ⟨.inl f, h⟩
theorem SlOk.stay {i : Nat} {x : Option (Option V)} {s : Sl} (st : Stay F H F' H') (ha : ∀ a, A i = some a → A' i = some a ∧ ∀ u, H a = some u → H' a = some u) (h : SlOk K F A H i x s) : SlOk K F' A' H' i x s := by
  cases s with
  | nil => trivial
  | val d => obtain ⟨v, e, r⟩ := h; exact ⟨v, e, r.stay st⟩
  | own io lk o => obtain ⟨a, e, e2, q⟩ := h; exact ⟨a, e, (ha a e2).1, q.stay st (ha a e2).2⟩

theorem take_ok {v : V} {x : Rv} {d : D} (r : Rel K F A sl σ H) (e0 : Ext F0 A0 sl0 H0 F A sl H) (ok : RvOk K F A H σ v x) (nw : NewOf H0 v x) (h : take x sl = some (d, sl')) :
    ∃ F' A', Rel K F' A' sl' σ H ∧ Ext F0 A0 sl0 H0 F' A' sl' H ∧ Rp K F' H v d := by
  cases x with
  | d x => cases h; exact ⟨F, A, r, e0, ok⟩
  | fr o =>
    cases o with
    | dk _ => cases h
    | dt _ => cases h
    | lst ds =>
      cases h
      obtain ⟨a, rfl, ⟨vs, e, q⟩, nf, na⟩ := ok
      refine ⟨plus1 F a, A, ⟨r.len, fun i s hs => (r.slot i s hs).stay stay_plus fun b hb => ⟨hb, fun _ z => z⟩, fun i b hb => ⟨fun f => ?_, (r.own i b hb).2⟩, r.inj, fun b f => ?_⟩,
        ⟨fun b f => .inl (e0.mono b f), e0.keep, fun b f => ?_, e0.ow, e0.io, e0.there⟩, .lst ⟨.inr rfl, e⟩ (q.stay stay_plus)⟩
      · rcases f with f | rfl
        · exact (r.own i b hb).1 f
        · exact na i hb
      · rcases f with f | rfl
        · exact r.frz b f
        · exact ⟨_, e⟩
      · rcases f with f | rfl
        · exact e0.fz b f
        · exact .inr (.inl (nw b rfl))
  | sl i =>
    have ok' : σ[i]? = some (some v) := ok
    unfold take at h
    cases e : sl[i]? with
    | none => simp [e] at h
    | some s =>
      have so := r.slot i s e
      rw [ok'] at so
      cases s with
      | nil => simp [e] at h
      | val d' =>
        simp [e] at h
        obtain ⟨rfl, rfl⟩ := h
        obtain ⟨v', e1, q⟩ := so
        cases e1
        exact ⟨F, A, r, e0, q⟩
      | own io lk o =>
        cases o with
        | dk _ => simp [e] at h
        | dt _ => simp [e] at h
        | lst ds =>
          cases io with
          | true => simp [e] at h
          | false =>
            cases lk with
            | true => simp [e] at h
            | false =>
              simp [e] at h
              obtain ⟨rfl, rfl⟩ := h
              obtain ⟨a, e1, eA, vs, e2, q⟩ := so
              cases e1
              have hi : i < sl.length := (List.getElem?_eq_some_iff.mp e).1
              refine ⟨plus1 F a, fun j => if j = i then none else A j, ⟨by simpa using r.len, fun j s hs => ?_, fun j b hb => ?_, fun j k b hj hk => ?_, fun b f => ?_⟩,
                ⟨fun b f => .inl (e0.mono b f), e0.keep, fun b f => ?_, fun j b hb => ?_, fun j io' lk o hj hz => ?_, e0.there⟩, .lst ⟨.inr rfl, e2⟩ (q.stay stay_plus)⟩
              · by_cases hj : j = i
                · subst hj
                  rw [List.getElem?_set_self hi] at hs
                  cases hs
                  exact ⟨.ref a, ok', .lst ⟨.inr rfl, e2⟩ (q.stay stay_plus)⟩
                · rw [List.getElem?_set_ne (Ne.symm hj)] at hs
                  exact (r.slot j s hs).stay stay_plus fun b hb => ⟨by simp [hj, hb], fun _ z => z⟩
              · by_cases hj : j = i
                · simp [hj] at hb
                · simp [hj] at hb
                  refine ⟨fun f => ?_, (r.own j b hb).2⟩
                  rcases f with f | rfl
                  · exact (r.own j b hb).1 f
                  · exact hj (r.inj j i _ hb eA)
              · by_cases h1 : j = i
                · simp [h1] at hj
                · by_cases h2 : k = i
                  · simp [h2] at hk
                  · simp [h1] at hj; simp [h2] at hk
                    exact r.inj j k b hj hk
              · rcases f with f | rfl
                · exact r.frz b f
                · exact ⟨_, e2⟩
              · rcases f with f | rfl
                · exact e0.fz b f
                · rcases e0.ow i b eA with z | z
                  · exact .inr (.inr z)
                  · exact .inr (.inl z)
              · by_cases hj : j = i
                · simp [hj] at hb
                · simp [hj] at hb; exact e0.ow j b hb
              · have q1 := e0.io j io' lk o hj hz
                by_cases hj' : j = i
                · subst hj'
                  obtain ⟨_, o', z, _⟩ := q1
                  rw [e] at z; cases z
                  rcases hz with hz | hz <;> cases hz
                · simp only [hj', if_false]
                  exact ⟨q1.1, by rw [List.getElem?_set_ne (Ne.symm hj')]; exact q1.2⟩
end

/-! ### what an expression is worth -/
section
variable {X : Cx} {e : Expr}
def tR (K : PySem.W.Frag) (m : M Rv) : TE := fun σ H Q => ∃ F A sl r sl', Rel K F A sl σ H ∧ m sl = some (r, sl') ∧
  ∀ v F' A' H', Rel K F' A' sl' σ H' → Ext F A sl H F' A' sl' H' → RvOk K F' A' H' σ v r → NewOf H v r → Q v H'
def tD (K : PySem.W.Frag) (m : M D) : TE := fun σ H Q => ∃ F A sl d sl', Rel K F A sl σ H ∧ m sl = some (d, sl') ∧
  ∀ v F' A' H', Rel K F' A' sl' σ H' → Ext F A sl H F' A' sl' H' → Rp K F' H' v d → Q v H'
/-- looked at only -/
def tK (K : PySem.W.Frag) (m : M D) : TE := fun σ H Q => ∃ F A sl d sl', Rel K F A sl σ H ∧ m sl = some (d, sl') ∧
  ∀ v F' A' H', Rel K F' A' sl' σ H' → Ext F A sl H F' A' sl' H' → Pk K F' H' v d → Q v H'
def tT (K : PySem.W.Frag) (m : M Bool) : TT := fun σ H Q => ∃ F A sl b sl', Rel K F A sl σ H ∧ m sl = some (b, sl') ∧
  ∀ F' A' H', Rel K F' A' sl' σ H' → Ext F A sl H F' A' sl' H' → Q b H'
abbrev RE (X : Cx) (m : M Rv) (e : Expr) : Prop := PE X e (tR X.K m)
abbrev DE (X : Cx) (m : M D) (e : Expr) : Prop := PE X e (tD X.K m)
abbrev KE (X : Cx) (m : M D) (e : Expr) : Prop := PE X e (tK X.K m)
abbrev BT (X : Cx) (m : M Bool) (e : Expr) : Prop := PT X e (tT X.K m)

theorem pe_weak {t t' : TE} (h : PE X e t) (w : ∀ σ H Q, t' σ H Q → t σ H Q) : PE X e t' := ⟨fun pins s σ H Q I q => h.run pins s σ H Q I (w σ H Q q)⟩
theorem pt_weak {t t' : TT} (h : PT X e t) (w : ∀ σ H Q, t' σ H Q → t σ H Q) : PT X e t' := ⟨fun pins s σ H Q I q => h.run pins s σ H Q I (w σ H Q q)⟩

theorem RE.take {m : M Rv} (h : RE X m e) : DE X (m >>= RL.take) e := pe_weak h fun σ H Q ⟨F, A, sl, d, sl', r, hm, q⟩ => by
  obtain ⟨x, sl1, h1, h2⟩ := bind_some hm
  refine ⟨F, A, sl, x, sl1, r, h1, fun v F1 A1 H1 r1 e1 ok nw => ?_⟩
  obtain ⟨F2, A2, r2, e2, p⟩ := take_ok r1 e1 ok nw h2
  exact q v F2 A2 H1 r2 e2 p
theorem RE.peek {m : M Rv} (h : RE X m e) : KE X (m >>= RL.peek) e := pe_weak h fun σ H Q ⟨F, A, sl, d, sl', r, hm, q⟩ => by
  obtain ⟨x, sl1, h1, h2⟩ := bind_some hm
  refine ⟨F, A, sl, x, sl1, r, h1, fun v F1 A1 H1 r1 e1 ok nw => ?_⟩
  obtain ⟨rfl, p⟩ := peek_ok r1 ok h2
  exact q v F1 A1 H1 r1 e1 p
theorem DE.rv {m : M D} (h : DE X m e) : RE X (m >>= fun d => pure (.d d)) e := pe_weak h fun σ H Q ⟨F, A, sl, x, sl', r, hm, q⟩ => by
  obtain ⟨d, sl1, h1, h2⟩ := bind_some hm
  obtain ⟨rfl, rfl⟩ := pure_some h2
  exact ⟨F, A, sl, d, sl', r, h1, fun v F1 A1 H1 r1 e1 p => q v F1 A1 H1 r1 e1 p trivial⟩
theorem DE.peek {m : M D} (h : DE X m e) : KE X m e := pe_weak h fun σ H Q ⟨F, A, sl, d, sl', r, hm, q⟩ =>
  ⟨F, A, sl, d, sl', r, hm, fun v F1 A1 H1 r1 e1 p => q v F1 A1 H1 r1 e1 (.inl p)⟩
end
end RL
namespace RL
open PySem PySem.Spec PyProof.Rows L2

/-! ### values' operations: what they tell, what they add to the heap -/
structure Grow (F : Addr → Prop) (H : Hp) (F' : Addr → Prop) (H' : Hp) : Prop where
  mono : ∀ a, F a → F' a
  keep : ∀ b o, H b = some o → H' b = some o
  fz : ∀ b, F' b → F b ∨ (H b = none ∧ ∃ o, H' b = some o)
/-- what an operation tells -/
def RvG (K : PySem.W.Frag) (F : Addr → Prop) (H H' : Hp) (v : V) : Rv → Prop
  | .d x => Rp K F H' v x
  | .fr o => ∃ a, v = .ref a ∧ OOk K F H' a o ∧ ¬ F a ∧ H a = none
  | .sl _ => False

section
variable {K : PySem.W.Frag} {F F' F0 F1 F2 : Addr → Prop} {A A' A0 A1 A2 : Nat → Option Addr} {sl sl' sl0 sl1 sl2 : List Sl} {σ : L2.St} {H H' H0 H1 H2 : Hp}
theorem Grow.refl : Grow F H F H := ⟨fun _ h => h, fun _ _ h => h, fun _ h => .inl h⟩
theorem Grow.back {b : Addr} (g : Grow F H F' H') (h : H' b = none) : H b = none := by
  cases q : H b with
  | none => rfl
  | some o => rw [g.keep b o q] at h; cases h
theorem Grow.trans (g : Grow F H F1 H1) (k : Grow F1 H1 F2 H2) : Grow F H F2 H2 where
  mono := fun a h => k.mono a (g.mono a h)
  keep := fun b o h => k.keep b o (g.keep b o h)
  fz := fun b h => by
    rcases k.fz b h with q | ⟨q, o, z⟩
    · rcases g.fz b q with z | ⟨z, o, w⟩
      · exact .inl z
      · exact .inr ⟨z, o, k.keep b o w⟩
    · exact .inr ⟨g.back q, o, z⟩
theorem Grow.stay (g : Grow F H F' H') : Stay F H F' H' := fun b o f h => ⟨g.mono b f, g.keep b o h⟩
theorem Rel.grow (r : Rel K F A sl σ H) (g : Grow F H F' H') : Rel K F' A sl σ H' where
  len := r.len
  slot := fun i s h => (r.slot i s h).stay g.stay fun a ha => ⟨ha, fun u hu => g.keep a u hu⟩
  own := fun i a h => by
    obtain ⟨n, o, e⟩ := r.own i a h
    refine ⟨fun f => ?_, o, g.keep a o e⟩
    rcases g.fz a f with q | ⟨q, _⟩
    · exact n q
    · rw [e] at q; cases q
  inj := r.inj
  frz := fun a f => by
    rcases g.fz a f with q | ⟨_, q⟩
    · obtain ⟨o, e⟩ := r.frz a q
      exact ⟨o, g.keep a o e⟩
    · exact q
theorem Grow.ext (g : Grow F H F' H') (r : Rel K F A sl σ H) : Ext F A sl H F' A sl H' where
  mono := g.mono
  keep := fun b o h _ => g.keep b o h
  fz := fun b f => (g.fz b f).imp id fun q => .inl q.1
  ow := fun i b h => .inl ⟨i, h⟩
  io := fun i io lk o h _ => ⟨rfl, o, h, fun _ => rfl⟩
  there := fun i b h => by
    obtain ⟨_, o, e⟩ := r.own i b h
    exact ⟨o, g.keep b o e⟩
theorem RvG.ok {v : V} {x : Rv} (r : Rel K F A sl σ H) (h : RvG K F' H H' v x) : RvOk K F' A H' σ v x := by
  cases x with
  | d x => exact h
  | sl i => exact h.elim
  | fr o =>
    obtain ⟨a, rfl, q, nf, n⟩ := h
    refine ⟨a, rfl, q, nf, fun i z => ?_⟩
    obtain ⟨_, o, e⟩ := r.own i a z
    rw [n] at e; cases e
theorem RvG.new {v : V} {x : Rv} (h : RvG K F' H H' v x) : NewOf H v x := by
  cases x with
  | d x => trivial
  | sl i => trivial
  | fr o =>
    obtain ⟨a, rfl, q, nf, n⟩ := h
    intro b e; cases e; exact n
/-- a new tuple -/
theorem grow_tup {p : Addr} {vs : List V} {ds : List D} (n : H p = none) (t : RpAll K F H vs ds) : Grow F H (plus1 F p) (upd H p (.tup vs)) ∧ Rp K (plus1 F p) (upd H p (.tup vs)) (.ref p) (.tuple ds) := by
  have g : Grow F H (plus1 F p) (upd H p (.tup vs)) := ⟨fun a h => .inl h, fun b o h => by rw [upd_ne (ne_of_none h n)]; exact h, fun b f => by
    rcases f with f | rfl
    · exact .inl f
    · exact .inr ⟨n, _, upd_same⟩⟩
  exact ⟨g, .tup (.inl ⟨.inr rfl, upd_same⟩) (t.stay g.stay)⟩
/-- a new list -/
theorem grow_lst {p : Addr} {vs : List V} {ds : List D} (n : H p = none) (nf : ¬ F p) (t : RpAll K F H vs ds) : Grow F H F (upd H p (.lst vs)) ∧ RvG K F H (upd H p (.lst vs)) (.ref p) (.fr (.lst ds)) := by
  have g : Grow F H F (upd H p (.lst vs)) := ⟨fun a h => h, fun b o h => by rw [upd_ne (ne_of_none h n)]; exact h, fun b f => .inl f⟩
  exact ⟨g, p, rfl, ⟨vs, upd_same, t.stay g.stay⟩, nf, n⟩

/-- F holds of tracked things alone -/
def Live (F : Addr → Prop) (H : Hp) : Prop := ∀ a, F a → ∃ o, H a = some o
theorem Live.nf {p : Addr} (l : Live F H) (n : H p = none) : ¬ F p := fun f => by
  obtain ⟨o, e⟩ := l p f
  rw [n] at e; cases e

/-- an operation of two values -/
def r2D (K : PySem.W.Frag) (g : D → D → Option Rv) : R2 := fun x y H Q => ∃ F p q rr, Live F H ∧ Pk K F H x p ∧ Pk K F H y q ∧ g p q = some rr ∧
  ∀ w F' H', Grow F H F' H' → RvG K F' H H' w rr → Q w H'
def rnD (K : PySem.W.Frag) (g : List D → Option Rv) : List V → Hp → VK → Prop := fun xs H Q => ∃ F ds rr, Live F H ∧ PySem.Paired (Pk K F H) xs ds ∧ g ds = some rr ∧
  ∀ w F' H', Grow F H F' H' → RvG K F' H H' w rr → Q w H'
end

section
variable {X : Cx} {a b c e : Expr} {pos : Pos}
/-- two operands, looked at -/
def two (ma mb : M Rv) (g : D → D → Option Rv) : M Rv := do
  let x ← ma
  let y ← mb
  let p ← peek x
  let q ← peek y
  opt (g p q)
theorem two_weak {K : PySem.W.Frag} {ma mb : M Rv} {g : D → D → Option Rv} {σ : L2.St} {H : Hp} {Q : VK} (h : tR K (two ma mb g) σ H Q) : tOp (r2D K g) (tR K ma) (tR K mb) σ H Q := by
  obtain ⟨F, A, sl, r, sl', rel, hm, q⟩ := h
  obtain ⟨x, sl1, h1, hm⟩ := bind_some hm
  obtain ⟨y, sl2, h2, hm⟩ := bind_some hm
  obtain ⟨p, sl3, h3, hm⟩ := bind_some hm
  obtain ⟨d, sl4, h4, hm⟩ := bind_some hm
  obtain ⟨h5, rfl⟩ := opt_some hm
  refine ⟨F, A, sl, x, sl1, rel, h1, fun v F1 A1 H1 r1 e1 ok1 _ => ⟨F1, A1, sl1, y, sl2, r1, h2, fun u F2 A2 H2 r2 e2 ok2 _ => ?_⟩⟩
  have ok1' := ok1.ext r1 e2
  obtain ⟨rfl, p1⟩ := peek_ok r2 ok1' h3
  obtain ⟨rfl, p2⟩ := peek_ok r2 ok2 h4
  refine ⟨F2, p, d, r, r2.frz, p1, p2, h5, fun w F3 H3 g3 ok3 => ?_⟩
  exact q w F3 A2 H3 (r2.grow g3) ((e1.trans e2).trans (g3.ext r2)) (ok3.ok r2) ((ok3.new).ext (e1.trans e2))
theorem re_bin {op : Operator} {g : D → D → Option Rv} {ma mb : M Rv} (ho : OpR X (binaryOp op) (r2D X.K g)) (ha : RE X ma a) (hb : RE X mb b) : RE X (two ma mb g) (.BinOp a op b pos) :=
  pe_weak (pe_op ho ha hb) fun _ _ _ h => two_weak h
theorem re_cmp {op : CmpOp} {g : D → D → Option Rv} {ma mb : M Rv} (ho : OpR X (compareOp op) (r2D X.K g)) (ha : RE X ma a) (hb : RE X mb b) (hm : behindInMarks op b = false) : RE X (two ma mb g) (.Compare a [op] [b] pos) :=
  pe_weak (pe_cmpR ho ha hb hm) fun _ _ _ h => two_weak h
/-- a comparison's answer as data -/
def asBl (g : D → D → Option Bool) : D → D → Option Rv := fun p q => (g p q).map fun b => .d (.bool b)
def twoB (ma mb : M Rv) (g : D → D → Option Bool) : M Bool := do
  let x ← ma
  let y ← mb
  let p ← peek x
  let q ← peek y
  opt (g p q)
theorem bt_cmp {op : CmpOp} {g : D → D → Option Bool} {ma mb : M Rv} (ho : OpR X (compareOp op) (r2D X.K (asBl g))) (ha : RE X ma a) (hb : RE X mb b) (hm : behindInMarks op b = false) : BT X (twoB ma mb g) (.Compare a [op] [b] pos) :=
  pt_weak (pt_cmpR ho ha hb hm) fun σ H Q ⟨F, A, sl, r, sl', rel, hm, q⟩ => by
    obtain ⟨x, sl1, h1, hm⟩ := bind_some hm
    obtain ⟨y, sl2, h2, hm⟩ := bind_some hm
    obtain ⟨p, sl3, h3, hm⟩ := bind_some hm
    obtain ⟨d, sl4, h4, hm⟩ := bind_some hm
    obtain ⟨h5, rfl⟩ := opt_some hm
    refine ⟨F, A, sl, x, sl1, rel, h1, fun v F1 A1 H1 r1 e1 ok1 _ => ⟨F1, A1, sl1, y, sl2, r1, h2, fun u F2 A2 H2 r2 e2 ok2 _ => ?_⟩⟩
    have ok1' := ok1.ext r1 e2
    obtain ⟨rfl, p1⟩ := peek_ok r2 ok1' h3
    obtain ⟨rfl, p2⟩ := peek_ok r2 ok2 h4
    refine ⟨F2, p, d, .d (.bool r), r2.frz, p1, p2, by unfold asBl; rw [h5]; rfl, fun w F3 H3 g3 ok3 => ?_⟩
    have e3 : w = .bl r := Rp.eqBl ok3
    subst e3
    exact ⟨r, rfl, q F3 A2 H3 (r2.grow g3) ((e1.trans e2).trans (g3.ext r2))⟩
def twoD (ma mb : M Rv) (g : D → D → Option Bool) : M D := do
  let b ← twoB ma mb g
  pure (.bool b)
theorem re_ofRv {m : M Rv} {m' : M D} (h : RE X m e) (w : ∀ sl d sl', m' sl = some (d, sl') → m sl = some (.d d, sl')) : DE X m' e := pe_weak h fun σ H Q ⟨F, A, sl, d, sl', rel, hm, q⟩ =>
  ⟨F, A, sl, .d d, sl', rel, w _ _ _ hm, fun v F1 A1 H1 r1 e1 ok _ => q v F1 A1 H1 r1 e1 ok⟩
theorem de_cmp {op : CmpOp} {g : D → D → Option Bool} {ma mb : M Rv} (ho : OpR X (compareOp op) (r2D X.K (asBl g))) (ha : RE X ma a) (hb : RE X mb b) (hm : behindInMarks op b = false) : DE X (twoD ma mb g) (.Compare a [op] [b] pos) :=
  re_ofRv (re_cmp ho ha hb hm) fun sl d sl' h => by
    obtain ⟨b, sl1, h1, h2⟩ := bind_some h
    obtain ⟨rfl, rfl⟩ := pure_some h2
    obtain ⟨x, sl1, e1, h1⟩ := bind_some h1
    obtain ⟨y, sl2, e2, h1⟩ := bind_some h1
    obtain ⟨p, sl3, e3, h1⟩ := bind_some h1
    obtain ⟨d, sl4, e4, h1⟩ := bind_some h1
    obtain ⟨e5, rfl⟩ := opt_some h1
    unfold two
    rw [bind_run e1, bind_run e2, bind_run e3, bind_run e4]
    unfold opt asBl
    rw [e5]
    rfl
end
end RL
namespace RL
open PySem PySem.Spec PyProof.Rows L2

theorem orOp {X : Cx} {f : Value → Value → Sem Value} {r r' t : R2} (h : OpR X f r) (h' : OpR X f r') (w : ∀ x y H Q, t x y H Q → r x y H Q ∨ r' x y H Q) : OpR X f t := by
  intro pins s σ H x y v u Q I rx ry q
  rcases w x y H Q q with z | z
  · exact h pins s σ H x y v u Q I rx ry z
  · exact h' pins s σ H x y v u Q I rx ry z
theorem toOp {X : Cx} {f : Value → Value → Sem Value} {r t : R2} (h : OpR X f r) (w : ∀ x y H Q, t x y H Q → r x y H Q) : OpR X f t := by
  intro pins s σ H x y v u Q I rx ry q
  exact h pins s σ H x y v u Q I rx ry (w x y H Q q)

/-! ### what the operators tell of data -/
def addR : D → D → Option Rv
  | .int i, .int j => some (.d (.int (i + j)))
  | .tuple a, .tuple b => if a.length + b.length ≤ sizeLine then some (.d (.tuple (a ++ b))) else none
  | .list a, .list b => if a.length + b.length ≤ sizeLine then some (.fr (.lst (a ++ b))) else none
  | .str a, .str b => if a.length + b.length ≤ sizeLine then some (.d (.str (a ++ b))) else none
  | _, _ => none
def subR : D → D → Option Rv
  | .int i, .int j => some (.d (.int (i - j)))
  | _, _ => none
def mulOk (i j : Int) : Bool := decide (i.natAbs < 2 ^ 64) || decide (j.natAbs < 2 ^ 64) || decide (i.natAbs.log2 + j.natAbs.log2 < 1000000)
def mulR : D → D → Option Rv
  | .int i, .int j => if mulOk i j then some (.d (.int (i * j))) else none
  | .list xs, .int k => if -(2 ^ 63) ≤ k ∧ k < 2 ^ 63 ∧ xs.length * k.toNat ≤ sizeLine then some (.fr (.lst (List.replicate k.toNat xs).flatten)) else none
  | .tuple xs, .int k => if xs ≠ [] ∧ 2 ≤ k ∧ k ≤ 1000 ∧ xs.length ≤ 1000 then some (.d (.tuple (List.replicate k.toNat xs).flatten)) else none
  | _, _ => none
def fdivR : D → D → Option Rv
  | .int i, .int j => if 0 < j ∧ j.natAbs.log2 < 9000 then some (.d (.int (i / j))) else none
  | _, _ => none
def modR : D → D → Option Rv
  | .int i, .int j => if 0 < j then some (.d (.int (i % j))) else none
  | _, _ => none
def powR : D → D → Option Rv
  | .int i, .int j => if 0 ≤ j ∧ ((i.natAbs.log2 : Int) + 1) * j ≤ 2 ^ 27 then some (.d (.int (i ^ j.toNat))) else none
  | _, _ => none
def shlR : D → D → Option Rv
  | .int i, .int j => if 0 ≤ j ∧ j ≤ 1000000 ∧ i.natAbs < 2 ^ 64 then some (.d (.int (i * 2 ^ j.toNat))) else none
  | _, _ => none
def shrR : D → D → Option Rv
  | .int i, .int j => if 0 ≤ j then some (.d (.int (i / 2 ^ j.toNat))) else none
  | _, _ => none
def xorR : D → D → Option Rv
  | .int i, .int j => some (.d (.int (Builtin.bitXor i j)))
  | _, _ => none

theorem rp_flat {K : PySem.W.Frag} {F : Addr → Prop} {H : Hp} : ∀ {n : Nat} {vs : List V} {ds : List D}, RpAll K F H vs ds → RpAll K F H (List.replicate n vs).flatten (List.replicate n ds).flatten
  | 0, _, _, _ => by simpa using RpAll.nil
  | n + 1, _, _, h => by simpa [List.replicate_succ] using h.append (rp_flat (n := n) h)

section
variable {X : Cx}
theorem opInt {f : Value → Value → Sem Value} {C : Int → Int → Prop} {g : Int → Int → Int} {h : D → D → Option Rv} (ho : OpR X f (rI C fun i j => .int (g i j)))
    (hg : ∀ p q rr, h p q = some rr → ∃ i j, p = .int i ∧ q = .int j ∧ C i j ∧ rr = .d (.int (g i j))) : OpR X f (r2D X.K h) := toOp ho fun x y H Q ⟨F, p, q, rr, lv, px, py, e, k⟩ => by
  obtain ⟨i, j, rfl, rfl, c, rfl⟩ := hg p q rr e
  exact ⟨i, j, px.int, py.int, c, k _ F H Grow.refl (.int _)⟩
theorem or_sub : OpR X (binaryOp .Sub) (r2D X.K subR) := opInt (C := fun _ _ => True) (g := fun i j => i - j) (toOp op_sub fun x y H Q ⟨i, j, a, b, _, q⟩ => ⟨i, j, a, b, q⟩) fun p q rr e => by
  cases p <;> cases q <;> simp [subR] at e
  exact ⟨_, _, rfl, rfl, trivial, e.symm⟩
theorem or_mod : OpR X (binaryOp .Mod) (r2D X.K modR) := opInt (g := fun i j => i % j) op_mod fun p q rr e => by
  cases p <;> cases q <;> simp [modR] at e
  exact ⟨_, _, rfl, rfl, e.1, e.2.symm⟩
theorem or_fdiv : OpR X (binaryOp .FloorDiv) (r2D X.K fdivR) := opInt (C := CDivW) (g := fun i j => i / j) op_fdivW fun p q rr e => by
  cases p <;> cases q <;> simp [fdivR] at e
  exact ⟨_, _, rfl, rfl, e.1, e.2.symm⟩
theorem or_pow : OpR X (binaryOp .Pow) (r2D X.K powR) := opInt (C := fun i j => 0 ≤ j ∧ ((i.natAbs.log2 : Int) + 1) * j ≤ 2 ^ 27) (g := fun i j => i ^ j.toNat)
  (opI fun i j t u s Q E hc q => pow_int hc.1 (by
    have h1 : (Builtin.Int.intBits i : Int) ≤ (i.natAbs.log2 : Int) + 1 := by
      unfold Builtin.Int.intBits
      split <;> omega
    exact Int.le_trans (Int.mul_le_mul_of_nonneg_right h1 hc.1) hc.2) q) fun p q rr e => by
  cases p <;> cases q <;> simp [powR] at e
  exact ⟨_, _, rfl, rfl, ⟨e.1.1, by simpa using e.1.2⟩, e.2.symm⟩
theorem or_shl : OpR X (binaryOp .LShift) (r2D X.K shlR) := opInt (C := CPow) (g := fun i j => i * 2 ^ j.toNat) op_shl fun p q rr e => by
  cases p <;> cases q <;> simp [shlR] at e
  exact ⟨_, _, rfl, rfl, ⟨e.1.1, e.1.2.1, by simpa using e.1.2.2⟩, e.2.symm⟩
theorem or_shr : OpR X (binaryOp .RShift) (r2D X.K shrR) := opInt (g := fun i j => i / 2 ^ j.toNat) op_shr fun p q rr e => by
  cases p <;> cases q <;> simp [shrR] at e
  exact ⟨_, _, rfl, rfl, e.1, e.2.symm⟩
theorem or_xor : OpR X (binaryOp .BitXor) (r2D X.K xorR) := opInt (C := fun _ _ => True) (g := fun i j => Builtin.bitXor i j) (toOp op_xor fun x y H Q ⟨i, j, a, b, _, q⟩ => ⟨i, j, a, b, q⟩) fun p q rr e => by
  cases p <;> cases q <;> simp [xorR] at e
  exact ⟨_, _, rfl, rfl, trivial, e.symm⟩
theorem or_add : OpR X (binaryOp .Add) (r2D X.K addR) := by
  refine orOp op_add (orOp (op_catA (X := X)) (orOp op_cat op_add_str (fun _ _ _ _ h => h)) (fun _ _ _ _ h => h)) fun x y H Q ⟨F, p, q, rr, lv, px, py, e, k⟩ => ?_
  cases p <;> cases q <;> simp [addR] at e
  · subst e
    exact .inl ⟨_, _, px.int, py.int, k _ F H Grow.refl (.int _)⟩
  · obtain ⟨hz, rfl⟩ := e
    exact .inr (.inr (.inr ⟨_, _, px.str, py.str, hz, k _ F H Grow.refl (.str _)⟩))
  · obtain ⟨hz, rfl⟩ := e
    obtain ⟨a, vs, rfl, ha, ra⟩ := px.list
    obtain ⟨b, ws, rfl, hb, rb⟩ := py.list
    refine .inr (.inr (.inl ⟨a, b, vs, ws, rfl, rfl, ha, hb, by rw [ra.length, rb.length]; exact hz, fun p n => ?_⟩))
    obtain ⟨g, rg⟩ := grow_lst n (lv.nf n) (ra.append rb)
    exact k _ _ _ g rg
  · obtain ⟨hz, rfl⟩ := e
    have rx := px.rpTup
    have ry := py.rpTup
    obtain ⟨a, vs, rfl, ha, ra⟩ := rx.tuple
    obtain ⟨b, ws, rfl, hb, rb⟩ := ry.tuple
    refine .inr (.inl ⟨a, b, vs, ws, rfl, rfl, ha, hb, by rw [ra.length, rb.length]; exact hz, fun z => ?_, fun z1 z2 => ?_, fun z1 z2 p n => ?_⟩)
    · subst z
      cases ra
      exact k _ F H Grow.refl ry
    · subst z2
      cases rb
      rw [List.append_nil] at k
      exact k _ F H Grow.refl rx
    · obtain ⟨g, rg⟩ := grow_tup (F := F) n (ra.append rb)
      exact k _ _ _ g rg
theorem natAbs64 {i : Int} (h : i.natAbs < 2 ^ 64) : -(2 ^ 64) < i ∧ i < 2 ^ 64 := by
  have e : (2 : Nat) ^ 64 = 18446744073709551616 := by decide
  have e2 : (2 : Int) ^ 64 = 18446744073709551616 := by decide
  rw [e] at h
  rw [e2]
  omega
theorem op_mulAny : OpR X (binaryOp .Mult) (rI (fun i j => mulOk i j = true) fun i j => .int (i * j)) := orOp op_mul op_mulW fun x y H Q ⟨i, j, a, b, c, q⟩ => by
  unfold mulOk at c
  simp only [Bool.or_eq_true, decide_eq_true_eq] at c
  rcases c with (c | c) | c
  · exact .inl ⟨i, j, a, b, .inl (natAbs64 c), q⟩
  · exact .inl ⟨i, j, a, b, .inr (natAbs64 c), q⟩
  · exact .inr ⟨i, j, a, b, c, q⟩
theorem or_mul : OpR X (binaryOp .Mult) (r2D X.K mulR) := by
  refine orOp op_mulAny (orOp op_rep (op_repT (X := X)) (fun _ _ _ _ h => h)) fun x y H Q ⟨F, p, q, rr, lv, px, py, e, k⟩ => ?_
  cases p <;> cases q <;> simp [mulR] at e
  · obtain ⟨c, rfl⟩ := e
    exact .inl ⟨_, _, px.int, py.int, c, k _ F H Grow.refl (.int _)⟩
  · obtain ⟨hz, rfl⟩ := e
    obtain ⟨a, vs, rfl, ha, ra⟩ := px.list
    refine .inr (.inl ⟨a, _, vs, rfl, py.int, ha, by simpa using hz.1, by simpa using hz.2.1, by rw [ra.length]; exact hz.2.2, fun p n => ?_⟩)
    obtain ⟨g, rg⟩ := grow_lst n (lv.nf n) (rp_flat (n := (Int.toNat _)) ra)
    exact k _ _ _ g rg
  · obtain ⟨hz, rfl⟩ := e
    obtain ⟨a, vs, rfl, ha, ra⟩ := px.tuple
    have hl := ra.length
    refine .inr (.inr ⟨a, _, vs, rfl, py.int, ha, fun z => ?_, hz.2.1, hz.2.2.1, by omega, fun p n => ?_⟩)
    · subst z
      cases ra
      exact hz.1 rfl
    · obtain ⟨g, rg⟩ := grow_tup (F := F) n (rp_flat (n := (Int.toNat _)) ra)
      exact k _ _ _ g rg
end
end RL
namespace RL
open PySem PySem.Spec PyProof.Rows L2

/-! ### comparisons -/
def eqB : D → D → Option Bool
  | .int i, .int j => some (i == j)
  | p, q => if SeqAt.shaped p && SeqAt.shaped q then some (PyData.eqv p q) else none
def neB (p q : D) : Option Bool := (eqB p q).map (!·)
/-- the ints of a tuple -/
def intsOf : List D → Option (List Int)
  | [] => some []
  | .int i :: r => (intsOf r).map (i :: ·)
  | _ :: _ => none
def ltB : D → D → Option Bool
  | .int i, .int j => some (decide (i < j))
  | .tuple a, .tuple b => match intsOf a, intsOf b with
    | some x, some y => some (HT.lexLt x y)
    | _, _ => none
  | _, _ => none
def leB : D → D → Option Bool
  | .int i, .int j => some (decide (i ≤ j))
  | _, _ => none
def gtB : D → D → Option Bool
  | .int i, .int j => some (decide (j < i))
  | _, _ => none
def geB : D → D → Option Bool
  | .int i, .int j => some (decide (j ≤ i))
  | _, _ => none
def inB (p : D) : D → Option Bool
  | .list ds => if SeqAt.shaped p && SeqAt.shaped (.list ds) then some (ds.any fun z => PyData.eqv z p) else none
  | .tuple ds => if SeqAt.shaped p && SeqAt.shaped (.tuple ds) then some (ds.any fun z => PyData.eqv z p) else none
  | _ => none
def ninB (p q : D) : Option Bool := (inB p q).map (!·)
def isNoneD : D → Bool
  | .none => true
  | _ => false
theorem isNoneD_f {p : D} (h : ¬ p = .none) : isNoneD p = false := by cases p <;> first | rfl | exact absurd rfl h
def isB : D → D → Option Bool
  | p, .none => some (isNoneD p)
  | .bool a, .bool b => some (a == b)
  | _, _ => none
def nisB (p q : D) : Option Bool := (isB p q).map (!·)

theorem asBl_some {g : D → D → Option Bool} {p q : D} {rr : Rv} (h : asBl g p q = some rr) : ∃ b, g p q = some b ∧ rr = .d (.bool b) := by
  unfold asBl at h
  cases e : g p q with
  | none => rw [e] at h; cases h
  | some b => rw [e] at h; exact ⟨b, rfl, (Option.some.inj h).symm⟩
theorem intsOf_rp {K : PySem.W.Frag} {F : Addr → Prop} {H : Hp} : ∀ {vs : List V} {ds : List D} {ns : List Int}, RpAll K F H vs ds → intsOf ds = some ns → vs = ns.map V.int
  | _, _, ns, .nil, h => by cases h; rfl
  | _, _, ns, .cons (d := d) r t, h => by
    cases d <;> simp [intsOf] at h
    obtain ⟨ms, h1, rfl⟩ := h
    rw [r.eqInt, intsOf_rp t h1]; rfl
theorem canLay_sh {d : D} (h : SeqAt.shaped d = true) : d.canLay0 = true := SeqAt.canLay_of_shaped h

section
variable {X : Cx}
/-- a comparison that leaves the heap -/
theorem opBool {f : Value → Value → Sem Value} {g : D → D → Option Bool}
    (ho : ∀ (pins : List (Addr × Obj)) (s : Shared) (σ : L2.St) (H : Hp) (x y : V) (v u : Value) (F : Addr → Prop) (p q : D) (b : Bool) (Q : Value → Shared → Prop), Inv X pins σ H s → RelV x v → RelV y u → Pk X.K F H x p → Pk X.K F H y q → g p q = some b → Q (.bool b) s → wpAny (model X.prog X.w) X.A (f v u) Q X.xe s) :
    OpR X f (r2D X.K (asBl g)) := by
  intro pins s σ H x y v u Q I rx ry ⟨F, p, q, rr, lv, px, py, e, k⟩
  obtain ⟨b, e1, rfl⟩ := asBl_some e
  exact ho pins s σ H x y v u F p q b _ I rx ry px py e1 ⟨.bl b, H, I, rfl, k _ F H Grow.refl (.bl b)⟩
theorem Pk.reads {pins : List (Addr × Obj)} {s : Shared} {σ : L2.St} {H : Hp} {x : V} {v : Value} {F : Addr → Prop} {p : D} (I : Inv X pins σ H s) (r : RelV x v) (h : Pk X.K F H x p) (c : p.canLay0 = true) : ∃ as, Reads s.heap v p as :=
  Dp.reads I p x v (h.dp c) r
theorem oc_eq (hu : X.A.units + 65 < cLine) : OpR X (compareOp .Eq) (r2D X.K (asBl eqB)) := opBool fun pins s σ H x y v u F p q b Q I rx ry px py e k => by
  have gen : (if SeqAt.shaped p && SeqAt.shaped q then some (PyData.eqv p q) else none) = some b → wpAny (model X.prog X.w) X.A (compareOp .Eq v u) Q X.xe s := fun e => by
    split at e
    · rename_i hs
      rw [Bool.and_eq_true] at hs
      cases e
      obtain ⟨as, r1⟩ := px.reads I rx (canLay_sh hs.1)
      obtain ⟨bs, r2⟩ := py.reads I ry (canLay_sh hs.2)
      exact SeqAt.compareEq_shaped r1 r2 hs.1 hs.2 (by omega) k
    · cases e
  cases p <;> cases q <;> first
    | exact gen e
    | (simp only [eqB, Option.some.injEq] at e
       obtain rfl := px.int
       obtain rfl := py.int
       obtain ⟨t, rfl⟩ := rx
       obtain ⟨t', rfl⟩ := ry
       subst e
       exact eq_int k)
theorem oc_ne (hu : X.A.units + 65 < cLine) : OpR X (compareOp .NotEq) (r2D X.K (asBl neB)) := opBool fun pins s σ H x y v u F p q b Q I rx ry px py e0 k => by
  obtain ⟨b', e, rfl⟩ := Option.map_eq_some_iff.mp e0
  have gen : (if SeqAt.shaped p && SeqAt.shaped q then some (PyData.eqv p q) else none) = some b' → wpAny (model X.prog X.w) X.A (compareOp .NotEq v u) Q X.xe s := fun e => by
    split at e
    · rename_i hs
      rw [Bool.and_eq_true] at hs
      cases e
      obtain ⟨as, r1⟩ := px.reads I rx (canLay_sh hs.1)
      obtain ⟨bs, r2⟩ := py.reads I ry (canLay_sh hs.2)
      exact SeqAt.compareNe_shaped r1 r2 hs.1 hs.2 (by omega) k
    · cases e
  cases p <;> cases q <;> first
    | exact gen e
    | (simp only [eqB, Option.some.injEq] at e
       obtain rfl := px.int
       obtain rfl := py.int
       obtain ⟨t, rfl⟩ := rx
       obtain ⟨t', rfl⟩ := ry
       subst e
       exact ne_int k)
theorem oc_lt (hu : X.A.units + 65 < cLine) : OpR X (compareOp .Lt) (r2D X.K (asBl ltB)) := opBool fun pins s σ H x y v u F p q b Q I rx ry px py e k => by
  cases p <;> cases q <;> simp [ltB] at e
  · obtain rfl := px.int
    obtain rfl := py.int
    obtain ⟨t, rfl⟩ := rx
    obtain ⟨t', rfl⟩ := ry
    subst e
    exact lt_int k
  · split at e
    · rename_i ns ms h1 h2
      cases e
      obtain ⟨a, vs, rfl, ha, ra⟩ := px.tuple
      obtain ⟨b, ws, rfl, hb, rb⟩ := py.tuple
      obtain rfl := intsOf_rp ra h1
      obtain rfl := intsOf_rp rb h2
      cases rx
      cases ry
      obtain ⟨its, r1, p1, _⟩ := I.tuple ha
      obtain ⟨its2, r2, p2, _⟩ := I.tuple hb
      exact HT.lt_tupInts p1 p2 (intsAre_of r1) (intsAre_of r2) (by omega) k
    · cases e
theorem oc_le : OpR X (compareOp .LtE) (r2D X.K (asBl leB)) := opBool fun pins s σ H x y v u F p q b Q I rx ry px py e k => by
  cases p <;> cases q <;> simp [leB] at e
  obtain rfl := px.int
  obtain rfl := py.int
  obtain ⟨t, rfl⟩ := rx
  obtain ⟨t', rfl⟩ := ry
  subst e
  exact le_int k
theorem oc_gt : OpR X (compareOp .Gt) (r2D X.K (asBl gtB)) := opBool fun pins s σ H x y v u F p q b Q I rx ry px py e k => by
  cases p <;> cases q <;> simp [gtB] at e
  obtain rfl := px.int
  obtain rfl := py.int
  obtain ⟨t, rfl⟩ := rx
  obtain ⟨t', rfl⟩ := ry
  subst e
  exact gt_int k
theorem oc_ge : OpR X (compareOp .GtE) (r2D X.K (asBl geB)) := opBool fun pins s σ H x y v u F p q b Q I rx ry px py e k => by
  cases p <;> cases q <;> simp [geB] at e
  obtain rfl := px.int
  obtain rfl := py.int
  obtain ⟨t, rfl⟩ := rx
  obtain ⟨t', rfl⟩ := ry
  subst e
  exact ge_int k
theorem oc_in (hu : X.A.units + 65 < cLine) : OpR X (compareOp .In) (r2D X.K (asBl inB)) := opBool fun pins s σ H x y v u F p q b Q I rx ry px py e k => by
  cases q <;> simp [inB] at e
  all_goals
    obtain ⟨⟨h1, h2⟩, rfl⟩ := e
    obtain ⟨as, r1⟩ := px.reads I rx (canLay_sh h1)
    obtain ⟨bs, r2⟩ := py.reads I ry (canLay_sh h2)
  · exact SeqAt.in_list_reads r2 r1 (SeqAt.canLay_of_shaped h2) (SeqAt.canLay_of_shaped h1) (room_in_shaped h1 hu) k
  · exact SeqAt.in_tuple_reads r2 r1 (SeqAt.canLay_of_shaped h2) (SeqAt.canLay_of_shaped h1) (room_in_shaped h1 hu) k
theorem oc_nin (hu : X.A.units + 65 < cLine) : OpR X (compareOp .NotIn) (r2D X.K (asBl ninB)) := opBool fun pins s σ H x y v u F p q b Q I rx ry px py e0 k => by
  obtain ⟨b', e, rfl⟩ := Option.map_eq_some_iff.mp e0
  cases q <;> simp [inB] at e
  all_goals
    obtain ⟨⟨h1, h2⟩, rfl⟩ := e
    obtain ⟨as, r1⟩ := px.reads I rx (canLay_sh h1)
    obtain ⟨bs, r2⟩ := py.reads I ry (canLay_sh h2)
  · exact SeqAt.notIn_list_reads r2 r1 (SeqAt.canLay_of_shaped h2) (SeqAt.canLay_of_shaped h1) (room_in_shaped h1 hu) k
  · exact SeqAt.notIn_tuple_reads r2 r1 (SeqAt.canLay_of_shaped h2) (SeqAt.canLay_of_shaped h1) (room_in_shaped h1 hu) k
theorem isB_none (p : D) : isB p .none = some (isNoneD p) := by cases p <;> rfl
theorem oc_is : OpR X (compareOp .Is) (r2D X.K (asBl isB)) := orOp op_isN op_isBl fun x y H Q ⟨F, p, q, rr, lv, px, py, e0, k⟩ => by
  obtain ⟨b, e, rfl⟩ := asBl_some e0
  by_cases hq : q = .none
  · subst hq
    rw [isB_none] at e
    cases e
    refine .inl ⟨py.none_iff.mpr rfl, ?_⟩
    by_cases hp : x = .non
    · have e1 := px.none_iff.mp hp
      subst e1
      rw [decide_eq_true hp]
      exact k _ F H Grow.refl (.bl _)
    · have e1 : ¬ p = .none := fun z => hp (px.none_iff.mpr z)
      rw [decide_eq_false hp]
      rw [isNoneD_f e1] at k
      exact k _ F H Grow.refl (.bl _)
  · cases p <;> cases q <;> simp [isB] at e
    all_goals first | exact absurd rfl hq | skip
    subst e
    refine .inr ⟨_, _, px.bl, py.bl, ?_⟩
    rw [← Bool.beq_eq_decide_eq]
    exact k _ F H Grow.refl (.bl _)
theorem oc_nis : OpR X (compareOp .IsNot) (r2D X.K (asBl nisB)) := orOp op_notN op_notBl fun x y H Q ⟨F, p, q, rr, lv, px, py, e0, k⟩ => by
  obtain ⟨b0, e1, rfl⟩ := asBl_some e0
  obtain ⟨b, e, rfl⟩ := Option.map_eq_some_iff.mp e1
  by_cases hq : q = .none
  · subst hq
    rw [isB_none] at e
    cases e
    refine .inl ⟨py.none_iff.mpr rfl, ?_⟩
    by_cases hp : x = .non
    · have e1 := px.none_iff.mp hp
      subst e1
      rw [decide_eq_true hp]
      exact k _ F H Grow.refl (.bl _)
    · have e1 : ¬ p = .none := fun z => hp (px.none_iff.mpr z)
      rw [decide_eq_false hp]
      rw [isNoneD_f e1] at k
      exact k _ F H Grow.refl (.bl _)
  · cases p <;> cases q <;> simp [isB] at e
    all_goals first | exact absurd rfl hq | skip
    subst e
    refine .inr ⟨_, _, px.bl, py.bl, ?_⟩
    rw [← Bool.beq_eq_decide_eq]
    exact k _ F H Grow.refl (.bl _)
end
end RL
namespace RL
open PySem PySem.Spec PyProof.Rows L2

/-! ### names and constants -/
def getv (i : Nat) : M Rv := fun sl => match sl[i]? with
  | some (.val d) => some (.d d, sl)
  | some (.own _ _ _) => some (.sl i, sl)
  | _ => none
/-! data that the module's top has written -/
mutual
inductive WrD (K : PySem.W.Frag) : V → D → Prop
  | non : WrD K .non .none
  | bl (b : Bool) : WrD K (.bl b) (.bool b)
  | int (i : Int) : WrD K (.int i) (.int i)
  | str (x : Str) : WrD K (.str x) (.str x)
  | tup {a : Addr} {xs : List V} {ds : List D} : WrT K a xs → WrAll K xs ds → WrD K (.ref a) (.tuple ds)
inductive WrAll (K : PySem.W.Frag) : List V → List D → Prop
  | nil : WrAll K [] []
  | cons {v : V} {vs : List V} {d : D} {ds : List D} : WrD K v d → WrAll K vs ds → WrAll K (v :: vs) (d :: ds)
end
mutual
theorem WrD.rp {K : PySem.W.Frag} {F : Addr → Prop} {H : Hp} : ∀ {v : V} {d : D}, WrD K v d → Rp K F H v d
  | _, _, .non => .non
  | _, _, .bl b => .bl b
  | _, _, .int i => .int i
  | _, _, .str x => .str x
  | _, _, .tup h t => .tup (.inr h) (WrAll.rp t)
theorem WrAll.rp {K : PySem.W.Frag} {F : Addr → Prop} {H : Hp} : ∀ {vs : List V} {ds : List D}, WrAll K vs ds → RpAll K F H vs ds
  | _, _, .nil => .nil
  | _, _, .cons r t => .cons (WrD.rp r) (WrAll.rp t)
end
section
variable {X : Cx} {a b c e : Expr} {es : List Expr} {pos : Pos}
theorem re_name {i : Nat} {x : Str} (h : PE X (.Name x pos) (tVar i)) : RE X (getv i) (.Name x pos) := pe_weak h fun σ H Q ⟨F, A, sl, r, sl', rel, hm, q⟩ => by
  unfold getv at hm
  cases h1 : sl[i]? with
  | none => simp [h1] at hm
  | some s =>
    have so := rel.slot i s h1
    cases s with
    | nil => simp [h1] at hm
    | val d =>
      simp [h1] at hm
      obtain ⟨rfl, rfl⟩ := hm
      obtain ⟨v, e1, p⟩ := so
      exact ⟨v, e1, q v F A H rel (Ext.refl rel) p trivial⟩
    | own io lk o =>
      simp [h1] at hm
      obtain ⟨rfl, rfl⟩ := hm
      obtain ⟨ad, e1, _⟩ := so
      exact ⟨.ref ad, e1, q _ F A H rel (Ext.refl rel) e1 trivial⟩
/-- a value that leans on nothing -/
theorem de_const {v : V} {d : D} (h : PE X e (tC v)) (w : WrD X.K v d) : DE X (pure d) e := pe_weak h fun σ H Q ⟨F, A, sl, r, sl', rel, hm, q⟩ => by
  obtain ⟨rfl, rfl⟩ := pure_some hm
  exact q v F A H rel (Ext.refl rel) w.rp
theorem de_int {i : Int} {j} : DE X (pure (.int i)) (.Constant (.int i) j pos) := de_const pe_int (.int i)
theorem de_bl {i : Bool} {j} : DE X (pure (.bool i)) (.Constant (.bool i) j pos) := de_const pe_bl (.bl i)
theorem de_non {j} : DE X (pure .none) (.Constant .none j pos) := de_const pe_non .non
theorem de_str {i : Str} {j} : DE X (pure (.str i)) (.Constant (.str i) j pos) := de_const pe_str (.str i)

/-! ### tests -/
theorem bt_val {m : M D} (h : DE X m e) (he : ∀ whole, isTrue e X.env whole = (do let v ← whole; standAt e.pos; holding [v] (truthy v)) := by intro _; rfl) :
    BT X (do let d ← m; opt (match d with | .bool b => some b | _ => none)) e := pt_weak (pt_val h he) fun σ H Q ⟨F, A, sl, b, sl', rel, hm, q⟩ => by
  obtain ⟨d, sl1, h1, h2⟩ := bind_some hm
  obtain ⟨h3, rfl⟩ := opt_some h2
  refine ⟨F, A, sl, d, _, rel, h1, fun v F1 A1 H1 r1 e1 p => ?_⟩
  cases d <;> simp at h3
  subst h3
  exact ⟨_, p.eqBl, q F1 A1 H1 r1 e1⟩
def andB (a b : M Bool) : M Bool := do if (← a) then b else pure false
def orB (a b : M Bool) : M Bool := do if (← a) then pure true else b
def notB (a : M Bool) : M Bool := do return !(← a)
abbrev BW (X : Cx) (m : M Bool) (e : Expr) : Prop := PW X e (tT X.K m)
theorem pw_weak {t t' : TT} (h : PW X e t) (w : ∀ σ H Q, t' σ H Q → t σ H Q) : PW X e t' := ⟨fun wh pins s σ H Q I q => h.run wh pins s σ H Q I (w σ H Q q)⟩
theorem bw_and1 {m : M Bool} (h : BT X m a) : BW X m (.BoolOp .And [a] pos) := pw_and1 h
theorem bw_or1 {m : M Bool} (h : BT X m a) : BW X m (.BoolOp .Or [a] pos) := pw_or1 h
theorem bw_and {m n : M Bool} {rest : List Expr} (h : BT X m a) (k : BW X n (.BoolOp .And (b :: rest) pos)) : BW X (andB m n) (.BoolOp .And (a :: b :: rest) pos) := pw_weak (pw_and h k) fun σ H Q ⟨F, A, sl, r, sl', rel, hm, q⟩ => by
  obtain ⟨d, sl1, h1, h2⟩ := bind_some hm
  refine ⟨F, A, sl, d, _, rel, h1, fun F1 A1 H1 r1 e1 => ?_⟩
  cases d with
  | true =>
    rw [if_pos rfl]
    exact ⟨F1, A1, sl1, r, sl', r1, h2, fun F2 A2 H2 r2 e2 => q F2 A2 H2 r2 (e1.trans e2)⟩
  | false =>
    rw [if_neg Bool.false_ne_true]
    obtain ⟨rfl, rfl⟩ := pure_some h2
    exact q F1 A1 H1 r1 e1
theorem bw_or {m n : M Bool} {rest : List Expr} (h : BT X m a) (k : BW X n (.BoolOp .Or (b :: rest) pos)) : BW X (orB m n) (.BoolOp .Or (a :: b :: rest) pos) := pw_weak (pw_or h k) fun σ H Q ⟨F, A, sl, r, sl', rel, hm, q⟩ => by
  obtain ⟨d, sl1, h1, h2⟩ := bind_some hm
  refine ⟨F, A, sl, d, _, rel, h1, fun F1 A1 H1 r1 e1 => ?_⟩
  cases d with
  | false =>
    rw [if_neg Bool.false_ne_true]
    exact ⟨F1, A1, sl1, r, sl', r1, h2, fun F2 A2 H2 r2 e2 => q F2 A2 H2 r2 (e1.trans e2)⟩
  | true =>
    rw [if_pos rfl]
    obtain ⟨rfl, rfl⟩ := pure_some h2
    exact q F1 A1 H1 r1 e1
theorem bt_not {m : M Bool} (h : BT X m a) : BT X (notB m) (.UnaryOp .Not a pos) := pt_weak (pt_not h) fun σ H Q ⟨F, A, sl, r, sl', rel, hm, q⟩ => by
  obtain ⟨d, sl1, h1, h2⟩ := bind_some hm
  obtain ⟨rfl, rfl⟩ := pure_some h2
  exact ⟨F, A, sl, d, _, rel, h1, fun F1 A1 H1 r1 e1 => q F1 A1 H1 r1 e1⟩
/-- .. as values -/
def blD (d : D) : Option Bool := match d with | .bool b => some b | _ => none
theorem blD_some {d : D} {b : Bool} (h : blD d = some b) : d = .bool b := by
  cases d <;> simp [blD] at h
  rw [h]
def andD (a b : M D) : M D := do
  let x ← a
  if (← opt (blD x)) then b else pure (.bool false)
def orD (a b : M D) : M D := do
  let x ← a
  if (← opt (blD x)) then pure (.bool true) else b
def notD (a : M D) : M D := do
  let x ← a
  let c ← opt (blD x)
  pure (.bool (!c))
theorem de_one {op} {m : M D} (h : DE X m a) : DE X m (.BoolOp op [a] pos) := pe_one h
theorem de_and {m n : M D} {rest : List Expr} (h : DE X m a) (k : DE X n (.BoolOp .And (b :: rest) pos)) : DE X (andD m n) (.BoolOp .And (a :: b :: rest) pos) := pe_weak (pe_and h k) fun σ H Q ⟨F, A, sl, r, sl', rel, hm, q⟩ => by
  obtain ⟨d, sl1, h1, h2⟩ := bind_some hm
  obtain ⟨b, sl2, h3, h4⟩ := bind_some h2
  obtain ⟨h5, rfl⟩ := opt_some h3
  obtain rfl := blD_some h5
  refine ⟨F, A, sl, _, _, rel, h1, fun v F1 A1 H1 r1 e1 p => ⟨b, p.eqBl, ?_⟩⟩
  cases b with
  | true =>
    rw [if_pos rfl]
    exact ⟨F1, A1, sl2, r, sl', r1, h4, fun v2 F2 A2 H2 r2 e2 p2 => q v2 F2 A2 H2 r2 (e1.trans e2) p2⟩
  | false =>
    rw [if_neg Bool.false_ne_true]
    obtain ⟨rfl, rfl⟩ := pure_some h4
    exact q _ F1 A1 H1 r1 e1 (.bl false)
theorem de_or {m n : M D} {rest : List Expr} (h : DE X m a) (k : DE X n (.BoolOp .Or (b :: rest) pos)) : DE X (orD m n) (.BoolOp .Or (a :: b :: rest) pos) := pe_weak (pe_or h k) fun σ H Q ⟨F, A, sl, r, sl', rel, hm, q⟩ => by
  obtain ⟨d, sl1, h1, h2⟩ := bind_some hm
  obtain ⟨b, sl2, h3, h4⟩ := bind_some h2
  obtain ⟨h5, rfl⟩ := opt_some h3
  obtain rfl := blD_some h5
  refine ⟨F, A, sl, _, _, rel, h1, fun v F1 A1 H1 r1 e1 p => ⟨b, p.eqBl, ?_⟩⟩
  cases b with
  | false =>
    rw [if_neg Bool.false_ne_true]
    exact ⟨F1, A1, sl2, r, sl', r1, h4, fun v2 F2 A2 H2 r2 e2 p2 => q v2 F2 A2 H2 r2 (e1.trans e2) p2⟩
  | true =>
    rw [if_pos rfl]
    obtain ⟨rfl, rfl⟩ := pure_some h4
    exact q _ F1 A1 H1 r1 e1 (.bl true)
theorem de_not {m : M D} (h : DE X m a) : DE X (notD m) (.UnaryOp .Not a pos) := pe_weak (pe_not h) fun σ H Q ⟨F, A, sl, r, sl', rel, hm, q⟩ => by
  obtain ⟨d, sl1, h1, h2⟩ := bind_some hm
  obtain ⟨b, sl2, h3, h4⟩ := bind_some h2
  obtain ⟨h5, rfl⟩ := opt_some h3
  obtain rfl := blD_some h5
  obtain ⟨rfl, rfl⟩ := pure_some h4
  exact ⟨F, A, sl, _, _, rel, h1, fun v F1 A1 H1 r1 e1 p => ⟨b, p.eqBl, q _ F1 A1 H1 r1 e1 (.bl _)⟩⟩
def iteM {α : Type} (c : M Bool) (a b : M α) : M α := do if (← c) then a else b
theorem re_if {mc : M Bool} {ma mb : M Rv} (hc : BT X mc c) (ha : RE X ma a) (hb : RE X mb b) : RE X (iteM mc ma mb) (.IfExp c a b pos) := pe_weak (pe_ifExp hc ha hb) fun σ H Q ⟨F, A, sl, r, sl', rel, hm, q⟩ => by
  obtain ⟨d, sl1, h1, h2⟩ := bind_some hm
  refine ⟨F, A, sl, d, _, rel, h1, fun F1 A1 H1 r1 e1 => ?_⟩
  cases d with
  | true =>
    rw [if_pos rfl]
    exact ⟨F1, A1, sl1, r, sl', r1, h2, fun v2 F2 A2 H2 r2 e2 p2 n2 => q v2 F2 A2 H2 r2 (e1.trans e2) p2 (n2.ext e1)⟩
  | false =>
    rw [if_neg Bool.false_ne_true]
    exact ⟨F1, A1, sl1, r, sl', r1, h2, fun v2 F2 A2 H2 r2 e2 p2 n2 => q v2 F2 A2 H2 r2 (e1.trans e2) p2 (n2.ext e1)⟩
theorem de_if {mc : M Bool} {ma mb : M D} (hc : BT X mc c) (ha : DE X ma a) (hb : DE X mb b) : DE X (iteM mc ma mb) (.IfExp c a b pos) := pe_weak (pe_ifExp hc ha hb) fun σ H Q ⟨F, A, sl, r, sl', rel, hm, q⟩ => by
  obtain ⟨d, sl1, h1, h2⟩ := bind_some hm
  refine ⟨F, A, sl, d, _, rel, h1, fun F1 A1 H1 r1 e1 => ?_⟩
  cases d with
  | true =>
    rw [if_pos rfl]
    exact ⟨F1, A1, sl1, r, sl', r1, h2, fun v2 F2 A2 H2 r2 e2 p2 => q v2 F2 A2 H2 r2 (e1.trans e2) p2⟩
  | false =>
    rw [if_neg Bool.false_ne_true]
    exact ⟨F1, A1, sl1, r, sl', r1, h2, fun v2 F2 A2 H2 r2 e2 p2 => q v2 F2 A2 H2 r2 (e1.trans e2) p2⟩
/-- a test as a value, a comparison's -/
def asD (m : M Bool) : M D := do return .bool (← m)

/-! ### argument lists -/
/-- the new objects among values: new since H, no two of them one -/
inductive Apart (H : Hp) : List V → List Rv → Prop
  | nil : Apart H [] []
  | cons {v : V} {vs : List V} {r : Rv} {rs : List Rv} : NewOf H v r → (∀ o, r = .fr o → ∀ (w : V) (o' : OO), (w, Rv.fr o') ∈ vs.zip rs → w ≠ v) → Apart H vs rs → Apart H (v :: vs) (r :: rs)
def tA (K : PySem.W.Frag) (m : M (List Rv)) : TA := fun σ H Q => ∃ F A sl rs sl', Rel K F A sl σ H ∧ m sl = some (rs, sl') ∧
  ∀ vs F' A' H', Rel K F' A' sl' σ H' → Ext F A sl H F' A' sl' H' → PySem.Paired (RvOk K F' A' H' σ) vs rs → Apart H vs rs → Q vs H'
theorem Apart.ext {F F' : Addr → Prop} {A A' : Nat → Option Addr} {sl sl' : List Sl} {H H1 : Hp} (e : Ext F A sl H F' A' sl' H1) : ∀ {vs : List V} {rs : List Rv}, Apart H1 vs rs → Apart H vs rs
  | _, _, .nil => .nil
  | _, _, .cons n h t => .cons (n.ext e) h (Apart.ext e t)
theorem Apart.mem {H : Hp} : ∀ {vs : List V} {rs : List Rv} {w : V} {o : OO}, Apart H vs rs → (w, Rv.fr o) ∈ vs.zip rs → NewOf H w (.fr o)
  | _, _, _, _, .nil, h => by simp at h
  | _, _, _, _, .cons n h t, k => by
    rw [List.zip_cons_cons] at k
    rcases List.mem_cons.mp k with z | z
    · obtain ⟨rfl, rfl⟩ := Prod.mk.inj z; exact n
    · exact t.mem z
def tAD (K : PySem.W.Frag) (m : M (List D)) : TA := fun σ H Q => ∃ F A sl rs sl', Rel K F A sl σ H ∧ m sl = some (rs, sl') ∧
  ∀ vs F' A' H', Rel K F' A' sl' σ H' → Ext F A sl H F' A' sl' H' → RpAll K F' H' vs rs → Q vs H'
abbrev AR (X : Cx) (m : M (List Rv)) (es : List Expr) : Prop := PA X es (tA X.K m)
abbrev AD (X : Cx) (m : M (List D)) (es : List Expr) : Prop := PA X es (tAD X.K m)
theorem pa_weak {t t' : TA} (h : PA X es t) (w : ∀ σ H Q, t' σ H Q → t σ H Q) : PA X es t' := ⟨fun p pins s σ H Q I q => h.run p pins s σ H Q I (w σ H Q q)⟩
theorem paired_ext {K : PySem.W.Frag} {F F' : Addr → Prop} {A A' : Nat → Option Addr} {sl sl' : List Sl} {σ : L2.St} {H H' : Hp} (r : Rel K F A sl σ H) (e : Ext F A sl H F' A' sl' H') : ∀ {vs : List V} {rs : List Rv}, PySem.Paired (RvOk K F A H σ) vs rs → PySem.Paired (RvOk K F' A' H' σ) vs rs
  | _, _, .nil => .nil
  | _, _, .cons p t => .cons (RvOk.ext r e p) (paired_ext r e t)
theorem ar_nil : AR X (pure []) [] := pa_weak pa_nil fun σ H Q ⟨F, A, sl, r, sl', rel, hm, q⟩ => by
  obtain ⟨rfl, rfl⟩ := pure_some hm
  exact q [] F A H rel (Ext.refl rel) .nil .nil
def consM {α : Type} (m : M α) (ms : M (List α)) : M (List α) := do
  let r ← m
  let rs ← ms
  pure (r :: rs)
theorem ar_cons {m : M Rv} {ms : M (List Rv)} (h : RE X m e) (hs : AR X ms es) (he : starEach (e :: es) X.env = (false, eval e X.env) :: starEach es X.env := by rfl) : AR X (consM m ms) (e :: es) := pa_weak (pa_cons h hs he) fun σ H Q ⟨F, A, sl, r, sl', rel, hm, q⟩ => by
  obtain ⟨x, sl1, h1, h2⟩ := bind_some hm
  obtain ⟨xs, sl2, h3, h4⟩ := bind_some h2
  obtain ⟨rfl, rfl⟩ := pure_some h4
  refine ⟨F, A, sl, x, _, rel, h1, fun v F1 A1 H1 r1 e1 p1 n1 => ⟨F1, A1, sl1, xs, sl', r1, h3, fun vs F2 A2 H2 r2 e2 p2 ap => ?_⟩⟩
  refine q (v :: vs) F2 A2 H2 r2 (e1.trans e2) (.cons (p1.ext r1 e2) p2) (.cons n1 (fun o eo w o' hw ev => ?_) (ap.ext e1))
  subst eo ev
  obtain ⟨a, rfl, hok, _⟩ := p1
  obtain ⟨u, hu⟩ := hok.ex
  have := ap.mem hw a rfl
  rw [hu] at this; cases this
theorem ad_nil : AD X (pure []) [] := pa_weak pa_nil fun σ H Q ⟨F, A, sl, r, sl', rel, hm, q⟩ => by
  obtain ⟨rfl, rfl⟩ := pure_some hm
  exact q [] F A H rel (Ext.refl rel) .nil
theorem ad_cons {m : M D} {ms : M (List D)} (h : DE X m e) (hs : AD X ms es) (he : starEach (e :: es) X.env = (false, eval e X.env) :: starEach es X.env := by rfl) : AD X (consM m ms) (e :: es) := pa_weak (pa_cons h hs he) fun σ H Q ⟨F, A, sl, r, sl', rel, hm, q⟩ => by
  obtain ⟨x, sl1, h1, h2⟩ := bind_some hm
  obtain ⟨xs, sl2, h3, h4⟩ := bind_some h2
  obtain ⟨rfl, rfl⟩ := pure_some h4
  exact ⟨F, A, sl, x, _, rel, h1, fun v F1 A1 H1 r1 e1 p1 => ⟨F1, A1, sl1, xs, sl', r1, h3, fun vs F2 A2 H2 r2 e2 p2 => q (v :: vs) F2 A2 H2 r2 (e1.trans e2) (.cons (p1.stay (r1.stay e2)) p2)⟩⟩
/-- the items of a list, of a tuple -/
def seqOf : D → Option (List D)
  | .list ds => some ds
  | .tuple ds => some ds
  | _ => none
theorem Pk.seqOf {K : PySem.W.Frag} {F : Addr → Prop} {H : Hp} {v : V} {d : D} {ds : List D} (h : Pk K F H v d) (e : seqOf d = some ds) : ∃ a vs, v = .ref a ∧ (SqT K H a vs ∨ SqL K H a vs) ∧ RpAll K F H vs ds := by
  cases d <;> simp [RL.seqOf] at e
  · subst e
    obtain ⟨a, vs, rfl, q, r⟩ := h.list
    exact ⟨a, vs, rfl, .inr (.inl (.inl q)), r⟩
  · subst e
    obtain ⟨a, vs, rfl, q, r⟩ := h.tuple
    exact ⟨a, vs, rfl, .inl q, r⟩
def starM (m : M D) (ms : M (List D)) : M (List D) := do
  let x ← m
  let xs ← opt (seqOf x)
  let rs ← ms
  pure (xs ++ rs)
theorem ad_star {m : M D} {ms : M (List D)} {p : Pos} (h : KE X m e) (hs : AD X ms es) (he : starEach (.Starred e p :: es) X.env = (true, eval e X.env) :: starEach es X.env := by rfl) : AD X (starM m ms) (.Starred e p :: es) := pa_weak (StX.pa_star h hs he) fun σ H Q ⟨F, A, sl, r, sl', rel, hm, q⟩ => by
  obtain ⟨x, sl1, h1, h2⟩ := bind_some hm
  obtain ⟨xs, sl2, h3', h4⟩ := bind_some h2
  obtain ⟨h3, rfl⟩ := opt_some h3'
  obtain ⟨ys, sl3, h5, h6⟩ := bind_some h4
  obtain ⟨rfl, rfl⟩ := pure_some h6
  refine ⟨F, A, sl, x, _, rel, h1, fun v F1 A1 H1 r1 e1 p1 => ?_⟩
  obtain ⟨a, vs, rfl, sq, ra⟩ := Pk.seqOf p1 h3
  exact ⟨a, vs, rfl, sq, F1, A1, sl2, ys, sl', r1, h5, fun ws F2 A2 H2 r2 e2 p2 => q (vs ++ ws) F2 A2 H2 r2 (e1.trans e2) ((ra.stay (r1.stay e2)).append p2)⟩

/-! ### displays -/
def tupD (ds : List D) : Option D := if ds.length ≤ sizeLine then some (.tuple ds) else none
def lstR (ds : List D) : Option Rv := if ds.length ≤ sizeLine then some (.fr (.lst ds)) else none
def tupM (m : M (List D)) : M D := do
  let ds ← m
  opt (tupD ds)
def lstM (m : M (List D)) : M Rv := do
  let ds ← m
  opt (lstR ds)
theorem de_tup {m : M (List D)} {x1} (h : AD X m es) : DE X (tupM m) (.Tuple es x1 pos) := pe_weak (pe_tup h) fun σ H Q ⟨F, A, sl, r, sl', rel, hm, q⟩ => by
  obtain ⟨ds, sl1, h1, h2⟩ := bind_some hm
  obtain ⟨h3, rfl⟩ := opt_some h2
  unfold tupD at h3
  split at h3
  · rename_i hl
    cases h3
    refine ⟨F, A, sl, ds, _, rel, h1, fun vs F1 A1 H1 r1 e1 p => ⟨by rw [p.length]; exact hl, fun ad n => ?_⟩⟩
    obtain ⟨g, rg⟩ := grow_tup (F := F1) n p
    exact q _ _ A1 _ (r1.grow g) (e1.trans (g.ext r1)) rg
  · cases h3
theorem re_lst {m : M (List D)} (h : AD X m es) : RE X (lstM m) (.List es pos) := pe_weak (pe_lst h) fun σ H Q ⟨F, A, sl, r, sl', rel, hm, q⟩ => by
  obtain ⟨ds, sl1, h1, h2⟩ := bind_some hm
  obtain ⟨h3, rfl⟩ := opt_some h2
  unfold lstR at h3
  split at h3
  · rename_i hl
    cases h3
    refine ⟨F, A, sl, ds, _, rel, h1, fun vs F1 A1 H1 r1 e1 p => ⟨by rw [p.length]; exact hl, fun ad n => ?_⟩⟩
    obtain ⟨g, rg⟩ := grow_lst n (Live.nf r1.frz n) p
    exact q _ _ A1 _ (r1.grow g) (e1.trans (g.ext r1)) (rg.ok r1) (rg.new.ext e1)
  · cases h3

/-! ### subscripts -/
def itemD : D → D → Option D
  | .list ds, .int i => atI ds i
  | .tuple ds, .int i => atI ds i
  | .dict [(.none, .list ds)], .int i => atI ds i
  | .str x, .int i => if x.length ≤ sizeLine then (atI x.cps.toList i).map fun c => .str ⟨#[c]⟩ else none
  | _, _ => none
def itemM (ma mb : M Rv) : M D := do
  let x ← ma
  let y ← mb
  let p ← peek x
  let q ← peek y
  opt (itemD p q)
theorem atI_rp {K : PySem.W.Frag} {F : Addr → Prop} {H : Hp} {vs : List V} {ds : List D} {i : Int} {d : D} (r : RpAll K F H vs ds) (h : atI ds i = some d) : ∃ v, atI vs i = some v ∧ Rp K F H v d := by
  unfold atI at h ⊢
  rw [r.length]
  cases e : ixN ds.length i with
  | none => rw [e] at h; cases h
  | some j =>
    rw [e] at h
    obtain ⟨v, e1, p⟩ := r.getD h
    exact ⟨v, e1, p⟩
theorem Pk.ro {K : PySem.W.Frag} {F : Addr → Prop} {H : Hp} {v : V} {ds : List D} (h : Pk K F H v (.dict [(.none, .list ds)])) : ∃ a vs, v = .ref a ∧ FO K F H a vs ∧ RpAll K F H vs ds := by
  rcases h with h | ⟨_, _, _, _, e, _⟩
  · cases h with
    | ro h t => exact ⟨_, _, rfl, h, t⟩
  · cases e
theorem ix_data : IxR X (fun x y H Q => ∃ F p q d, Pk X.K F H x p ∧ Pk X.K F H y q ∧ itemD p q = some d ∧ ∀ w, Rp X.K F H w d → Q w H) := by
  intro value slice pins s σ H x y v u Q I rx ry ⟨F, p, q, d, px, py, e, k⟩ hs
  unfold itemD at e
  split at e
  · obtain ⟨a, vs, rfl, ha, ra⟩ := px.list
    obtain ⟨w, e1, rp⟩ := atI_rp ra e
    exact ix_list value slice pins s σ H _ y v u Q I rx ry ⟨a, vs, _, w, rfl, py.int, .inl (.inl ha), e1, k w rp⟩ hs
  · obtain ⟨a, vs, rfl, ha, ra⟩ := px.tuple
    obtain ⟨w, e1, rp⟩ := atI_rp ra e
    exact ix_tup value slice pins s σ H _ y v u Q I rx ry ⟨a, vs, _, w, rfl, py.int, ha, e1, k w rp⟩ hs
  · obtain ⟨a, vs, rfl, ha, ra⟩ := px.ro
    obtain ⟨w, e1, rp⟩ := atI_rp ra e
    exact ix_list value slice pins s σ H _ y v u Q I rx ry ⟨a, vs, _, w, rfl, py.int, ha.seq, e1, k w rp⟩ hs
  · split at e
    · rename_i hl
      obtain ⟨c, e1, rfl⟩ := Option.map_eq_some_iff.mp e
      exact ix_str value slice pins s σ H x y v u Q I rx ry ⟨_, _, c, px.str, py.int, hl, e1, k _ (.str _)⟩ hs
    · cases e
  · cases e
theorem de_ix {ma mb : M Rv} (ha : RE X ma a) (hb : RE X mb b) (hs : PlainIx b) : DE X (itemM ma mb) (.Subscript a b pos) := pe_weak (pe_ix ix_data ha hb hs) fun σ H Q ⟨F, A, sl, r, sl', rel, hm, q⟩ => by
  obtain ⟨x, sl1, h1, hm⟩ := bind_some hm
  obtain ⟨y, sl2, h2, hm⟩ := bind_some hm
  obtain ⟨p, sl3, h3, hm⟩ := bind_some hm
  obtain ⟨d, sl4, h4, hm⟩ := bind_some hm
  obtain ⟨h5, rfl⟩ := opt_some hm
  refine ⟨F, A, sl, x, _, rel, h1, fun v F1 A1 H1 r1 e1 ok1 _ => ⟨F1, A1, sl1, y, sl2, r1, h2, fun u F2 A2 H2 r2 e2 ok2 _ => ?_⟩⟩
  obtain ⟨rfl, p1⟩ := peek_ok r2 (ok1.ext r1 e2) h3
  obtain ⟨rfl, p2⟩ := peek_ok r2 ok2 h4
  exact ⟨F2, p, d, r, p1, p2, h5, fun w rp => q w F2 A2 H2 r2 (e1.trans e2) rp⟩
end
end RL
namespace RL
open PySem PySem.Spec PyProof.Rows L2

inductive Fl where
  | nx | bk | ct
  | rt (r : Rv)
def S : Type := List Sl → Option (Fl × List Sl)
/-- what leaves a def: new, or one's own -/
def RvL (K : PySem.W.Frag) (F' : Addr → Prop) (A : Nat → Option Addr) (sl : List Sl) (H H' : Hp) (v : V) : Rv → Prop
  | .d x => Rp K F' H' v x
  | .fr o => ∃ a, v = .ref a ∧ OOk K F' H' a o ∧ ¬ F' a ∧ (H a = none ∨ ∃ j, A j = some a ∧ ∀ lk o', sl[j]? ≠ some (.own true lk o'))
  | .sl _ => False
def Outs (K : PySem.W.Frag) (D : Ends) (F : Addr → Prop) (A : Nat → Option Addr) (sl : List Sl) (H : Hp) (fl : Fl) (sl' : List Sl) : Prop :=
  ∀ F' A' H', Ext F A sl H F' A' sl' H' → Live F' H' → match fl with
    | .nx => ∀ σ', Rel K F' A' sl' σ' H' → D.nx σ' H'
    | .bk => ∀ σ', Rel K F' A' sl' σ' H' → D.bk σ' H'
    | .ct => ∀ σ', Rel K F' A' sl' σ' H' → D.ct σ' H'
    | .rt r => ∀ v σ', Rel K F' A' sl' σ' H' → RvL K F' A sl H H' v r → D.rt v H'
def tS (K : PySem.W.Frag) (m : S) : TS := fun D σ H => ∃ F A sl fl sl', Rel K F A sl σ H ∧ m sl = some (fl, sl') ∧ Outs K D F A sl H fl sl'
abbrev SS (X : Cx) (m : S) (st : Stmt) : Prop := PS X st (tS X.K m)
abbrev BS (X : Cx) (m : S) (st : List Stmt) : Prop := PSs X st (tS X.K m)
theorem ps_weak {X : Cx} {st : Stmt} {t t' : TS} (h : PS X st t) (w : ∀ D σ H, t' D σ H → t D σ H) : PS X st t' := ⟨fun pins s σ H D I q => h.run pins s σ H D I (w D σ H q)⟩
theorem pss_weak {X : Cx} {st : List Stmt} {t t' : TS} (h : PSs X st t) (w : ∀ D σ H, t' D σ H → t D σ H) : PSs X st t' := ⟨fun pins s σ H D I q => h.run pins s σ H D I (w D σ H q)⟩

section
variable {K : PySem.W.Frag} {F F' F0 F1 F2 : Addr → Prop} {A A' A0 A1 A2 : Nat → Option Addr} {sl sl' sl0 sl1 sl2 : List Sl} {σ σ' : L2.St} {H H' H0 H1 H2 : Hp} {Dn : Ends} {fl : Fl}
theorem RvL.back {v : V} {x : Rv} (r : Rel K F1 A1 sl1 σ H1) (e : Ext F A sl H F1 A1 sl1 H1) (h : RvL K F' A1 sl1 H1 H' v x) : RvL K F' A sl H H' v x := by
  cases x with
  | d x => exact h
  | sl i => exact h
  | fr o =>
    obtain ⟨a, rfl, q, nf, n⟩ := h
    refine ⟨a, rfl, q, nf, ?_⟩
    rcases n with n | ⟨j, n1, n2⟩
    · rcases e.back n with z | ⟨i, z⟩
      · exact .inl z
      · obtain ⟨o, w⟩ := e.there i a z
        rw [n] at w; cases w
    · rcases e.ow j a n1 with ⟨i, z⟩ | z
      · refine .inr ⟨i, z, fun lk o' w => ?_⟩
        obtain ⟨p1, o2, p2, _⟩ := e.io i true lk o' w (.inl rfl)
        have := r.inj j i a n1 (p1.trans z)
        subst this
        exact n2 lk o2 p2
      · exact .inl z
theorem Outs.after (r : Rel K F1 A1 sl1 σ H1) (e : Ext F A sl H F1 A1 sl1 H1) (h : Outs K Dn F A sl H fl sl') : Outs K Dn F1 A1 sl1 H1 fl sl' := by
  intro F' A' H' e2 lv
  have q := h F' A' H' (e.trans e2) lv
  cases fl with
  | nx => exact q
  | bk => exact q
  | ct => exact q
  | rt x => exact fun v σ' r' g => q v σ' r' (g.back r e)

/-! ### stores -/
def okSet (sl : List Sl) (i : Nat) : Bool := match sl[i]? with
  | some (.own io lk _) => !io && !lk
  | some _ => true
  | none => false
def setS (i : Nat) (s : Sl) (sl : List Sl) : Option (List Sl) := if okSet sl i then some (sl.set i s) else none
theorem setS_some {i : Nat} {s : Sl} (h : setS i s sl = some sl') : i < sl.length ∧ (∀ io lk o, sl[i]? = some (.own io lk o) → io = false ∧ lk = false) ∧ sl' = sl.set i s := by
  unfold setS at h
  split at h
  · rename_i hs
    cases h
    unfold okSet at hs
    cases e : sl[i]? with
    | none => simp [e] at hs
    | some z =>
      refine ⟨(List.getElem?_eq_some_iff.mp e).1, fun io lk o h => ?_, rfl⟩
      cases h
      simpa [e] using hs
  · cases h
def less1 (A : Nat → Option Addr) (i : Nat) : Nat → Option Addr := fun j => if j = i then none else A j
def with1 (A : Nat → Option Addr) (i : Nat) (a : Addr) : Nat → Option Addr := fun j => if j = i then some a else A j
theorem store_val {i : Nat} {v : V} {d : D} (r : Rel K F A sl σ H) (h : setS i (.val d) sl = some sl') (p : Rp K F H v d) : Rel K F (less1 A i) sl' (σ.set i (some v)) H ∧ Ext F A sl H F (less1 A i) sl' H := by
  obtain ⟨hi, ho, rfl⟩ := setS_some h
  have hs : i < σ.length := by rw [← r.len]; exact hi
  refine ⟨⟨by simpa using r.len, fun j s hj => ?_, fun j b hb => ?_, fun j k b hj hk => ?_, r.frz⟩, ⟨fun _ f => f, fun b o h _ => h, fun b f => .inl f, fun j b hb => ?_, fun j io lk o hj hz => ?_, fun j b hb => (r.own j b hb).2⟩⟩
  · by_cases e : j = i
    · subst e
      rw [List.getElem?_set_self hi] at hj
      cases hj
      rw [List.getElem?_set_self hs]
      exact ⟨v, rfl, p⟩
    · rw [List.getElem?_set_ne (Ne.symm e)] at hj
      rw [List.getElem?_set_ne (Ne.symm e)]
      exact (r.slot j s hj).stay (fun b o f h => ⟨f, h⟩) fun b hb => ⟨by simp [less1, e, hb], fun _ z => z⟩
  · unfold less1 at hb
    split at hb
    · cases hb
    · exact r.own j b hb
  · unfold less1 at hj hk
    split at hj
    · cases hj
    · split at hk
      · cases hk
      · exact r.inj j k b hj hk
  · unfold less1 at hb
    split at hb
    · cases hb
    · exact .inl ⟨j, hb⟩
  · by_cases e : j = i
    · subst e
      obtain ⟨rfl, rfl⟩ := ho io lk o hj
      rcases hz with z | z <;> cases z
    · exact ⟨by simp [less1, e], o, by rw [List.getElem?_set_ne (Ne.symm e)]; exact hj, fun _ => rfl⟩
theorem store_own {i : Nat} {v : V} {o : OO} (r : Rel K F A sl σ H) (h : setS i (.own false false o) sl = some sl') (e0 : Ext F0 A0 sl0 H0 F A sl H) (p : RvOk K F A H σ' v (.fr o)) (nw : NewOf H0 v (.fr o)) :
    ∃ A', Rel K F A' sl' (σ.set i (some v)) H ∧ Ext F0 A0 sl0 H0 F A' sl' H ∧ ∀ j b, A' j = some b → A j = some b ∨ v = .ref b := by
  obtain ⟨hi, ho, rfl⟩ := setS_some h
  have hs : i < σ.length := by rw [← r.len]; exact hi
  obtain ⟨a, rfl, ok, nf, na⟩ := p
  refine ⟨with1 A i a, ⟨by simpa using r.len, fun j s hj => ?_, fun j b hb => ?_, fun j k b hj hk => ?_, r.frz⟩, ⟨e0.mono, e0.keep, e0.fz, fun j b hb => ?_, fun j io lk o' hj hz => ?_, e0.there⟩, fun j b hb => ?_⟩
  · by_cases e : j = i
    · subst e
      rw [List.getElem?_set_self hi] at hj
      cases hj
      rw [List.getElem?_set_self hs]
      exact ⟨a, rfl, by simp [with1], ok⟩
    · rw [List.getElem?_set_ne (Ne.symm e)] at hj
      rw [List.getElem?_set_ne (Ne.symm e)]
      exact (r.slot j s hj).stay (fun b o f h => ⟨f, h⟩) fun b hb => ⟨by simp [with1, e, hb], fun _ z => z⟩
  · unfold with1 at hb
    split at hb
    · cases hb; exact ⟨nf, ok.ex⟩
    · exact r.own j b hb
  · unfold with1 at hj hk
    split at hj
    · cases hj
      split at hk
      · rename_i h1 h2; exact h1.trans h2.symm
      · exact (na k hk).elim
    · split at hk
      · cases hk; exact (na j hj).elim
      · exact r.inj j k b hj hk
  · unfold with1 at hb
    split at hb
    · cases hb; exact .inr (nw _ rfl)
    · exact e0.ow j b hb
  · have q := e0.io j io lk o' hj hz
    by_cases e : j = i
    · subst e
      obtain ⟨_, o2, z, _⟩ := q
      obtain ⟨rfl, rfl⟩ := ho io lk o2 z
      rcases hz with z | z <;> cases z
    · simp only [with1, e, if_false]
      exact ⟨q.1, by rw [List.getElem?_set_ne (Ne.symm e)]; exact q.2⟩
  · unfold with1 at hb
    split at hb
    · cases hb; exact .inr rfl
    · exact .inl hb
/-- one's own object changes -/
theorem mutate {i : Nat} {io : Bool} {o o' : OO} {a : Addr} {u : HO} (r : Rel K F A sl σ H) (h : sl[i]? = some (.own io false o)) (ha : A i = some a) (ok : OOk K F (upd H a u) a o') :
    Rel K F A (sl.set i (.own io false o')) σ (upd H a u) ∧ Ext F A sl H F A (sl.set i (.own io false o')) (upd H a u) := by
  have hi : i < sl.length := (List.getElem?_eq_some_iff.mp h).1
  obtain ⟨nf, _⟩ := r.own i a ha
  have st : Stay F H F (upd H a u) := fun b o f e => ⟨f, by
    rw [upd_ne (fun z => nf (by rw [← z]; exact f))]; exact e⟩
  refine ⟨⟨by simpa using r.len, fun j s hj => ?_, fun j b hb => ⟨(r.own j b hb).1, ?_⟩, r.inj, fun b f => ?_⟩, ⟨fun _ f => f, fun b o e k => ?_, fun b f => .inl f, fun j b hb => .inl ⟨j, hb⟩, fun j io' lk o2 hj hz => ?_, fun j b hb => ?_⟩⟩
  · by_cases e : j = i
    · subst e
      rw [List.getElem?_set_self hi] at hj
      cases hj
      obtain ⟨b, e1, e2, _⟩ := r.slot j _ h
      rw [ha] at e2; cases e2
      exact ⟨a, e1, ha, ok⟩
    · rw [List.getElem?_set_ne (Ne.symm e)] at hj
      refine (r.slot j s hj).stay st fun b hb => ⟨hb, fun w z => ?_⟩
      rw [upd_ne (fun y => e (r.inj j i a (by rw [← y]; exact hb) ha))]; exact z
  · by_cases e : b = a
    · subst e; exact ⟨u, upd_same⟩
    · rw [upd_ne e]; exact (r.own j b hb).2
  · obtain ⟨w, e⟩ := r.frz b f
    exact ⟨w, (st b w f e).2⟩
  · rw [upd_ne (fun y => k i (by rw [y]; exact ha))]; exact e
  · by_cases e : j = i
    · subst e
      rw [h] at hj; cases hj
      exact ⟨rfl, o', List.getElem?_set_self hi, fun z => by cases z⟩
    · exact ⟨rfl, o2, by rw [List.getElem?_set_ne (Ne.symm e)]; exact hj, fun _ => rfl⟩
  · by_cases e : b = a
    · subst e; exact ⟨u, upd_same⟩
    · rw [upd_ne e]; exact (r.own j b hb).2
end
end RL
namespace RL
open PySem PySem.Spec PyProof.Rows L2

/-! ### statements -/
def skipS : S := fun sl => some (.nx, sl)
def seqS (a b : S) : S := fun sl => match a sl with
  | some (.nx, sl1) => b sl1
  | r => r
def ifS (c : M Bool) (a b : S) : S := fun sl => match c sl with
  | some (t, sl1) => if t then a sl1 else b sl1
  | none => none
def dropS {α : Type} (m : M α) : S := fun sl => match m sl with
  | some (_, sl1) => some (.nx, sl1)
  | none => none
/-- what leaves the def: an own object goes with it -/
def leave : Rv → M Rv
  | .sl j => fun sl => match sl[j]? with
    | some (.val d) => some (.d d, sl)
    | some (.own false false o) => some (.fr o, sl.set j .nil)
    | _ => none
  | r => fun sl => some (r, sl)
def retS (m : M Rv) : S := fun sl => match (m >>= leave) sl with
  | some (r, sl1) => some (.rt r, sl1)
  | none => none
def neverS : S := fun _ => none
section
variable {X : Cx} {st : Stmt} {rest : List Stmt} {e c : Expr} {pos : Pos}
theorem bs_nil : BS X skipS [] := pss_weak pss_nil fun Dn σ H ⟨F, A, sl, fl, sl', r, hm, q⟩ => by
  cases hm
  exact q F A H (Ext.refl r) r.frz σ r
theorem ss_pass : SS X skipS (.Pass pos) := ps_weak ps_pass fun Dn σ H ⟨F, A, sl, fl, sl', r, hm, q⟩ => by
  cases hm
  exact q F A H (Ext.refl r) r.frz σ r
theorem ss_brk : SS X (fun sl => some (.bk, sl)) (.Break pos) := ps_weak ps_break fun Dn σ H ⟨F, A, sl, fl, sl', r, hm, q⟩ => by
  cases hm
  exact q F A H (Ext.refl r) r.frz σ r
theorem ss_cont : SS X (fun sl => some (.ct, sl)) (.Continue pos) := ps_weak ps_continue fun Dn σ H ⟨F, A, sl, fl, sl', r, hm, q⟩ => by
  cases hm
  exact q F A H (Ext.refl r) r.frz σ r
theorem ss_never : SS X neverS st := ps_weak ps_never fun Dn σ H ⟨F, A, sl, fl, sl', r, hm, q⟩ => by cases hm
theorem bs_never {sts : List Stmt} : BS X neverS sts := pss_weak pss_never fun Dn σ H ⟨F, A, sl, fl, sl', r, hm, q⟩ => by cases hm
theorem bs_one {m : S} (h : SS X m st) : BS X m [st] := pss_one h
theorem bs_cons {m n : S} (h : SS X m st) (k : BS X n rest) : BS X (seqS m n) (st :: rest) := pss_weak (pss_cons h k) fun Dn σ H ⟨F, A, sl, fl, sl', r, hm, q⟩ => by
  unfold seqS at hm
  cases e : m sl with
  | none => rw [e] at hm; cases hm
  | some p =>
    obtain ⟨f1, sl1⟩ := p
    rw [e] at hm
    cases f1 with
    | nx => exact ⟨F, A, sl, .nx, sl1, r, e, fun F1 A1 H1 e1 l1 σ1 r1 => ⟨F1, A1, sl1, fl, sl', r1, hm, q.after r1 e1⟩⟩
    | bk => cases hm; exact ⟨F, A, sl, .bk, _, r, e, q⟩
    | ct => cases hm; exact ⟨F, A, sl, .ct, _, r, e, q⟩
    | rt v => cases hm; exact ⟨F, A, sl, .rt v, _, r, e, q⟩
theorem ss_if {mc : M Bool} {ma mb : S} {a b : List Stmt} (hc : BT X mc c) (ha : BS X ma a) (hb : BS X mb b) : SS X (ifS mc ma mb) (.If c a b pos) := ps_weak (ps_if hc ha hb) fun Dn σ H ⟨F, A, sl, fl, sl', r, hm, q⟩ => by
  unfold ifS at hm
  cases e : mc sl with
  | none => rw [e] at hm; cases hm
  | some p =>
    obtain ⟨t, sl1⟩ := p
    rw [e] at hm
    refine ⟨F, A, sl, t, sl1, r, e, fun F1 A1 H1 r1 e1 => ?_⟩
    cases t with
    | true => rw [if_pos rfl]; exact ⟨F1, A1, sl1, fl, sl', r1, hm, q.after r1 e1⟩
    | false => rw [if_neg Bool.false_ne_true]; exact ⟨F1, A1, sl1, fl, sl', r1, hm, q.after r1 e1⟩
theorem ss_expr {m : M Rv} (h : RE X m e) (hs : swapsWith e none pos.line X.env = pure false := by rfl) : SS X (dropS m) (.Expr e pos) := ps_weak (ps_expr h hs) fun Dn σ H ⟨F, A, sl, fl, sl', r, hm, q⟩ => by
  unfold dropS at hm
  cases e1 : m sl with
  | none => rw [e1] at hm; cases hm
  | some p =>
    obtain ⟨t, sl1⟩ := p
    rw [e1] at hm
    cases hm
    exact ⟨F, A, sl, t, _, r, e1, fun v F1 A1 H1 r1 x1 _ _ => q F1 A1 H1 x1 r1.frz σ r1⟩
theorem Rel.clear {K : PySem.W.Frag} {F : Addr → Prop} {A : Nat → Option Addr} {sl : List Sl} {σ : L2.St} {H : Hp} {j : Nat} (r : Rel K F A sl σ H) : Rel K F A (sl.set j .nil) σ H where
  len := by simpa using r.len
  slot := fun i s h => by
    by_cases e : i = j
    · subst e
      have hi : i < sl.length := by
        have := (List.getElem?_eq_some_iff.mp h).1
        simpa using this
      rw [List.getElem?_set_self hi] at h
      cases h
      trivial
    · rw [List.getElem?_set_ne (Ne.symm e)] at h
      exact r.slot i s h
  own := r.own
  inj := r.inj
  frz := r.frz
theorem leave_ok {K : PySem.W.Frag} {F F0 : Addr → Prop} {A A0 : Nat → Option Addr} {sl sl' sl0 : List Sl} {σ : L2.St} {H H0 : Hp} {v : V} {x y : Rv} (r : Rel K F A sl σ H) (e0 : Ext F0 A0 sl0 H0 F A sl H) (ok : RvOk K F A H σ v x) (nw : NewOf H0 v x)
    (h : leave x sl = some (y, sl')) : Rel K F A sl' σ H ∧ Ext F0 A0 sl0 H0 F A sl' H ∧ RvL K F A0 sl0 H0 H v y := by
  cases x with
  | d x => cases h; exact ⟨r, e0, ok⟩
  | fr o =>
    cases h
    obtain ⟨a, rfl, q, nf, na⟩ := ok
    exact ⟨r, e0, a, rfl, q, nf, .inl (nw a rfl)⟩
  | sl j =>
    have ok' : σ[j]? = some (some v) := ok
    unfold leave at h
    cases e : sl[j]? with
    | none => simp [e] at h
    | some s =>
      have so := r.slot j s e
      rw [ok'] at so
      cases s with
      | nil => simp [e] at h
      | val d =>
        simp [e] at h
        obtain ⟨rfl, rfl⟩ := h
        obtain ⟨v', e1, q⟩ := so
        cases e1
        exact ⟨r, e0, q⟩
      | own io lk o =>
        cases io with
        | true => simp [e] at h
        | false =>
          cases lk with
          | true => simp [e] at h
          | false =>
            simp [e] at h
            obtain ⟨rfl, rfl⟩ := h
            obtain ⟨a, e1, e2, q⟩ := so
            cases e1
            refine ⟨r.clear, ⟨e0.mono, e0.keep, e0.fz, e0.ow, fun i io lk o2 hj hz => ?_, e0.there⟩, a, rfl, q, (r.own j a e2).1, ?_⟩
            · obtain ⟨p1, o3, p2, p3⟩ := e0.io i io lk o2 hj hz
              refine ⟨p1, o3, ?_, p3⟩
              have ne : j ≠ i := by
                rintro rfl
                rw [e] at p2; cases p2
                rcases hz with z | z <;> cases z
              rw [List.getElem?_set_ne ne]; exact p2
            · rcases e0.ow j a e2 with ⟨i, z⟩ | z
              · refine .inr ⟨i, z, fun lk o' w => ?_⟩
                obtain ⟨p1, o3, p2, _⟩ := e0.io i true lk o' w (.inl rfl)
                have := r.inj j i a e2 (p1.trans z)
                subst this
                rw [e] at p2; cases p2
              · exact .inl z
theorem ss_ret {m : M Rv} (h : RE X m e) : SS X (retS m) (.Return (some e) pos) := ps_weak (ps_ret h) fun Dn σ H ⟨F, A, sl, fl, sl', r, hm, q⟩ => by
  unfold retS at hm
  cases e1 : (m >>= leave) sl with
  | none => rw [e1] at hm; cases hm
  | some p =>
    obtain ⟨y, sl2⟩ := p
    rw [e1] at hm
    cases hm
    obtain ⟨x, sl1, h1, h2⟩ := bind_some e1
    refine ⟨F, A, sl, x, sl1, r, h1, fun v F1 A1 H1 r1 x1 ok nw => ?_⟩
    obtain ⟨r2, x2, ok2⟩ := leave_ok r1 x1 ok nw h2
    exact q F1 A1 H1 x2 r2.frz v σ r2 ok2
theorem ss_retN : SS X (retS (pure (.d .none))) (.Return none pos) := ps_weak ps_retN fun Dn σ H ⟨F, A, sl, fl, sl', r, hm, q⟩ => by
  cases hm
  exact q F A H (Ext.refl r) r.frz .non σ r Rp.non

/-! ### names stored -/
def settle : Rv → M Rv
  | .sl j => do
    let d ← take (.sl j)
    pure (.d d)
  | r => fun sl => some (r, sl)
def putRv (i : Nat) : Rv → List Sl → Option (List Sl)
  | .d x, sl => setS i (.val x) sl
  | .fr o, sl => setS i (.own false false o) sl
  | .sl _, _ => none
def asg (i : Nat) (m : M Rv) : S := fun sl => match (m >>= settle) sl with
  | some (r, sl1) => (putRv i r sl1).map fun sl2 => (.nx, sl2)
  | none => none
theorem settle_ok {K : PySem.W.Frag} {F F0 : Addr → Prop} {A A0 : Nat → Option Addr} {sl sl' sl0 : List Sl} {σ : L2.St} {H H0 : Hp} {v : V} {x y : Rv} (r : Rel K F A sl σ H) (e0 : Ext F0 A0 sl0 H0 F A sl H) (ok : RvOk K F A H σ v x) (nw : NewOf H0 v x)
    (h : settle x sl = some (y, sl')) : ∃ F' A', Rel K F' A' sl' σ H ∧ Ext F0 A0 sl0 H0 F' A' sl' H ∧ RvOk K F' A' H σ v y ∧ NewOf H0 v y ∧ (∀ j, y ≠ .sl j) ∧ (∀ o, y = .fr o → x = .fr o ∧ F' = F ∧ A' = A) := by
  cases x with
  | d x => cases h; exact ⟨F, A, r, e0, ok, nw, (fun _ z => by cases z), (fun _ z => by cases z)⟩
  | fr o => cases h; exact ⟨F, A, r, e0, ok, nw, (fun _ z => by cases z), (fun _ z => by cases z; exact ⟨rfl, rfl, rfl⟩)⟩
  | sl j =>
    obtain ⟨d, sl1, h1, h2⟩ := bind_some h
    obtain ⟨rfl, rfl⟩ := pure_some h2
    obtain ⟨F', A', r', e', p⟩ := take_ok r e0 ok nw h1
    exact ⟨F', A', r', e', p, trivial, (fun _ z => by cases z), (fun _ z => by cases z)⟩
theorem putRv_ok {K : PySem.W.Frag} {F F0 : Addr → Prop} {A A0 : Nat → Option Addr} {sl sl' sl0 : List Sl} {σ σ0 : L2.St} {H H0 : Hp} {v : V} {x : Rv} {i : Nat} (r : Rel K F A sl σ H) (e0 : Ext F0 A0 sl0 H0 F A sl H) (ok : RvOk K F A H σ0 v x) (nw : NewOf H0 v x)
    (h : putRv i x sl = some sl') : ∃ A', Rel K F A' sl' (σ.set i (some v)) H ∧ Ext F0 A0 sl0 H0 F A' sl' H ∧ ∀ j b, A' j = some b → A j = some b ∨ (v = .ref b ∧ ∃ o, x = .fr o) := by
  cases x with
  | d x =>
    obtain ⟨r1, e1⟩ := store_val r h ok
    refine ⟨_, r1, e0.trans e1, fun j b hb => .inl ?_⟩
    unfold less1 at hb
    split at hb
    · cases hb
    · exact hb
  | fr o =>
    obtain ⟨A', r1, e1, hA⟩ := store_own r h e0 ok nw
    exact ⟨A', r1, e1, fun j b hb => (hA j b hb).imp id fun z => ⟨z, o, rfl⟩⟩
  | sl j => cases h
theorem ss_asg {i : Nat} {m : M Rv} (h : PS X st (tAsg (tR X.K m) (gName i))) : SS X (asg i m) st := ps_weak h fun Dn σ H ⟨F, A, sl, fl, sl', r, hm, q⟩ => by
  unfold asg at hm
  cases e1 : (m >>= settle) sl with
  | none => rw [e1] at hm; cases hm
  | some p =>
    obtain ⟨y, sl2⟩ := p
    rw [e1] at hm
    obtain ⟨sl3, h3, h4⟩ := Option.map_eq_some_iff.mp hm
    cases h4
    obtain ⟨x, sl1, h1, h2⟩ := bind_some e1
    refine ⟨F, A, sl, x, sl1, r, h1, fun v F1 A1 H1 r1 x1 ok nw => ?_⟩
    obtain ⟨F2, A2, r2, x2, ok2, nw2, _⟩ := settle_ok r1 x1 ok nw h2
    obtain ⟨A3, r3, x3, _⟩ := putRv_ok r2 x2 ok2 nw2 h3
    exact q F2 A3 H1 x3 r3.frz _ r3

/-! ### targets -/
def tG (K : PySem.W.Frag) (g : D → List Sl → Option (List Sl)) : TG := fun v σ H Q => ∃ F A sl d sl', Rel K F A sl σ H ∧ Rp K F H v d ∧ g d sl = some sl' ∧
  ∀ σ' F' A' H', Rel K F' A' sl' σ' H' → Ext F A sl H F' A' sl' H' → Q σ' H'
def tGs (K : PySem.W.Frag) (g : List D → List Sl → Option (List Sl)) : TGs := fun vs σ H Q => ∃ F A sl ds sl', Rel K F A sl σ H ∧ RpAll K F H vs ds ∧ g ds sl = some sl' ∧
  ∀ σ' F' A' H', Rel K F' A' sl' σ' H' → Ext F A sl H F' A' sl' H' → Q σ' H'
abbrev GE (X : Cx) (g : D → List Sl → Option (List Sl)) (tg : Expr) : Prop := PG X tg (tG X.K g)
abbrev GS (X : Cx) (g : List D → List Sl → Option (List Sl)) (tg : List Expr) : Prop := PGs X tg (tGs X.K g)
theorem pg_weak {tg : Expr} {t t' : TG} (h : PG X tg t) (w : ∀ v σ H Q, t' v σ H Q → t v σ H Q) : PG X tg t' := ⟨fun pins s σ H v u Q I r q => h.run pins s σ H v u Q I r (w v σ H Q q)⟩
theorem pgs_weak {tg : List Expr} {t t' : TGs} (h : PGs X tg t) (w : ∀ v σ H Q, t' v σ H Q → t v σ H Q) : PGs X tg t' := ⟨fun pins s σ H v u Q I r q => h.run pins s σ H v u Q I r (w v σ H Q q)⟩
theorem pg_or {tg : Expr} {t t' u : TG} (h : PG X tg t) (h' : PG X tg t') (w : ∀ v σ H Q, u v σ H Q → t v σ H Q ∨ t' v σ H Q) : PG X tg u := ⟨fun pins s σ H v x Q I r q => by
  rcases w v σ H Q q with z | z
  · exact h.run pins s σ H v x Q I r z
  · exact h'.run pins s σ H v x Q I r z⟩
def gv (i : Nat) (d : D) (sl : List Sl) : Option (List Sl) := setS i (.val d) sl
theorem ge_name {i : Nat} {tg : Expr} (h : PG X tg (gName i)) : GE X (gv i) tg := pg_weak h fun v σ H Q ⟨F, A, sl, d, sl', r, p, hm, q⟩ => by
  obtain ⟨r1, e1⟩ := store_val r hm p
  exact q _ F _ H r1 e1
def gnil (ds : List D) (sl : List Sl) : Option (List Sl) := match ds with
  | [] => some sl
  | _ => none
def gcons (g : D → List Sl → Option (List Sl)) (gs : List D → List Sl → Option (List Sl)) (ds : List D) (sl : List Sl) : Option (List Sl) := match ds with
  | d :: r => (g d sl).bind (gs r)
  | [] => none
theorem gs_nil : GS X gnil [] := pgs_weak pgs_nil fun v σ H Q ⟨F, A, sl, d, sl', r, p, hm, q⟩ => by
  cases p with
  | nil => cases hm; exact ⟨rfl, q σ F A H r (Ext.refl r)⟩
  | cons _ _ => cases hm
theorem gs_cons {g : D → List Sl → Option (List Sl)} {gs : List D → List Sl → Option (List Sl)} {t : Expr} {ts : List Expr} (h : GE X g t) (k : GS X gs ts) (hs : (assignEach (t :: ts) X.env).map (·.2) = assign t X.env :: (assignEach ts X.env).map (·.2) := by rfl) : GS X (gcons g gs) (t :: ts) :=
  pgs_weak (pgs_cons h k hs) fun v σ H Q ⟨F, A, sl, d, sl', r, p, hm, q⟩ => by
    cases p with
    | nil => cases hm
    | cons p ps =>
      obtain ⟨sl1, h1, h2⟩ := Option.bind_eq_some_iff.mp hm
      exact ⟨_, _, rfl, F, A, sl, _, sl1, r, p, h1, fun σ1 F1 A1 H1 r1 e1 => ⟨F1, A1, sl1, _, sl', r1, ps.stay (r.stay e1), h2, fun σ2 F2 A2 H2 r2 e2 => q σ2 F2 A2 H2 r2 (e1.trans e2)⟩⟩
def gtup (n : Nat) (gs : List D → List Sl → Option (List Sl)) (d : D) (sl : List Sl) : Option (List Sl) := match seqOf d with
  | some ds => if ds.length = n then gs ds sl else none
  | none => none
theorem ge_tup {gs : List D → List Sl → Option (List Sl)} {ts : List Expr} {k n : Nat} (hc : X.calm = true) (h : GS X gs ts) (hn : (assignEach ts X.env).length = n := by rfl) (hst : (assignEach ts X.env).findIdx? (·.1) = none := by rfl) : GE X (gtup n gs) (.Tuple ts k pos) :=
  pg_or (pg_tup hc h hn hst) (pg_unl hc h hn hst) fun v σ H Q ⟨F, A, sl, d, sl', r, p, hm, q⟩ => by
    unfold gtup at hm
    cases e : seqOf d with
    | none => rw [e] at hm; cases hm
    | some ds =>
      rw [e] at hm
      simp only at hm
      split at hm
      · rename_i hl
        cases d <;> simp [seqOf] at e
        · subst e
          cases p with
          | lst f t => exact .inr ⟨_, _, rfl, f.seq, by rw [t.length]; exact hl, F, A, sl, _, sl', r, t, hm, q⟩
        · subst e
          cases p with
          | tup f t => exact .inl ⟨_, _, rfl, f.seq, by rw [t.length]; exact hl, F, A, sl, _, sl', r, t, hm, q⟩
      · cases hm
def asgT (m : M D) (g : D → List Sl → Option (List Sl)) : S := fun sl => match m sl with
  | some (d, sl1) => (g d sl1).map fun sl2 => (.nx, sl2)
  | none => none
theorem ss_asgT {m : M D} {g : D → List Sl → Option (List Sl)} (h : PS X st (tAsg (tD X.K m) (tG X.K g))) : SS X (asgT m g) st := ps_weak h fun Dn σ H ⟨F, A, sl, fl, sl', r, hm, q⟩ => by
  unfold asgT at hm
  cases e1 : m sl with
  | none => rw [e1] at hm; cases hm
  | some p =>
    obtain ⟨d, sl1⟩ := p
    rw [e1] at hm
    obtain ⟨sl2, h3, h4⟩ := Option.map_eq_some_iff.mp hm
    cases h4
    exact ⟨F, A, sl, d, sl1, r, e1, fun v F1 A1 H1 r1 x1 p => ⟨F1, A1, sl1, d, _, r1, p, h3, fun σ2 F2 A2 H2 r2 e2 => q F2 A2 H2 (x1.trans e2) r2.frz σ2 r2⟩⟩
end
end RL
namespace RL
open PySem PySem.Spec PyProof.Rows L2

/-! ### what a loop walks -/
structure Src (K : PySem.W.Frag) (ds : List D) (J : It) (Kp : (Addr → Prop) → (Nat → Option Addr) → List Sl → Hp → Prop) : Prop where
  stay : ∀ F A sl σ H F' A' sl' H', Rel K F A sl σ H → Kp F A sl H → Ext F A sl H F' A' sl' H' → Kp F' A' sl' H'
  go : ∀ F A sl σ H i, Rel K F A sl σ H → Kp F A sl H → i < ds.length → J.go i H
  yld : ∀ F A sl σ H i x H', Rel K F A sl σ H → Kp F A sl H → i < ds.length → J.yld i H x H' → ∃ F' d, ds[i]? = some d ∧ Grow F H F' H' ∧ Rp K F' H' x d
  stop : ∀ F A sl σ H i, Rel K F A sl σ H → Kp F A sl H → i = ds.length → J.stop i H
/-- the slot is held while a loop walks it -/
def lockO : Option Nat → List Sl → List Sl
  | none, sl => sl
  | some i, sl => match sl[i]? with
    | some (.own io _ o) => sl.set i (.own io true o)
    | _ => sl
def unlockO : Option Nat → List Sl → List Sl
  | none, sl => sl
  | some i, sl => match sl[i]? with
    | some (.own io _ o) => sl.set i (.own io false o)
    | _ => sl
/-- only an unlocked object of one's own is locked -/
def FreeAt (sl : List Sl) : Option Nat → Prop
  | none => True
  | some i => ∃ io o, sl[i]? = some (.own io false o)
def tI (K : PySem.W.Frag) (m : M (List D × Option Nat)) : TI := fun σ H R => ∃ F A sl ds lk sl', Rel K F A sl σ H ∧ m sl = some ((ds, lk), sl') ∧
  ∀ F' A' H' J Kp, Rel K F' A' sl' σ H' → Ext F A sl H F' A' sl' H' → FreeAt sl' lk → Kp F' A' (lockO lk sl') H' → Src K ds J Kp → R J H'
abbrev IE (X : Cx) (m : M (List D × Option Nat)) (tg iter : Expr) : Prop := PI X tg iter (tI X.K m)
theorem pi_weak {X : Cx} {tg iter : Expr} {t t' : TI} (h : PI X tg iter t) (w : ∀ σ H R, t' σ H R → t σ H R) : PI X tg iter t' := ⟨fun pins s σ H R I q => h.run pins s σ H R I (w σ H R q)⟩

section
variable {K : PySem.W.Frag} {F F' F0 F1 F2 : Addr → Prop} {A A' A0 A1 A2 : Nat → Option Addr} {sl sl' sl0 sl1 sl2 : List Sl} {σ σ' : L2.St} {H H' H0 H1 H2 : Hp} {lk : Option Nat}
theorem lock_len : (lockO lk sl).length = sl.length := by
  cases lk with
  | none => rfl
  | some i => unfold lockO; simp only; split <;> simp
theorem unlock_len : (unlockO lk sl).length = sl.length := by
  cases lk with
  | none => rfl
  | some i => unfold unlockO; simp only; split <;> simp
theorem lock_get (j : Nat) : (lockO lk sl)[j]? = sl[j]? ∨ ∃ io l o, sl[j]? = some (.own io l o) ∧ (lockO lk sl)[j]? = some (.own io true o) := by
  cases lk with
  | none => exact .inl rfl
  | some i =>
    unfold lockO
    simp only
    split
    · rename_i io l o e
      by_cases h : j = i
      · subst h
        exact .inr ⟨io, l, o, e, by rw [List.getElem?_set_self (List.getElem?_eq_some_iff.mp e).1]⟩
      · exact .inl (List.getElem?_set_ne (Ne.symm h))
    · exact .inl rfl
theorem unlock_get (j : Nat) : (unlockO lk sl)[j]? = sl[j]? ∨ ∃ io l o, lk = some j ∧ sl[j]? = some (.own io l o) ∧ (unlockO lk sl)[j]? = some (.own io false o) := by
  cases lk with
  | none => exact .inl rfl
  | some i =>
    unfold unlockO
    simp only
    split
    · rename_i io l o e
      by_cases h : j = i
      · subst h
        exact .inr ⟨io, l, o, rfl, e, by rw [List.getElem?_set_self (List.getElem?_eq_some_iff.mp e).1]⟩
      · exact .inl (List.getElem?_set_ne (Ne.symm h))
    · exact .inl rfl
theorem Rel.lock (r : Rel K F A sl σ H) : Rel K F A (lockO lk sl) σ H where
  len := lock_len.trans r.len
  slot := fun j s h => by
    rcases lock_get (lk := lk) (sl := sl) j with e | ⟨io, l, o, e1, e2⟩
    · rw [e] at h; exact r.slot j s h
    · rw [e2] at h; cases h; exact (show SlOk K F A H j (σ[j]?) (.own io l o) from r.slot j _ e1)
  own := r.own
  inj := r.inj
  frz := r.frz
theorem Rel.unlock (r : Rel K F A sl σ H) : Rel K F A (unlockO lk sl) σ H where
  len := unlock_len.trans r.len
  slot := fun j s h => by
    rcases unlock_get (lk := lk) (sl := sl) j with e | ⟨io, l, o, _, e1, e2⟩
    · rw [e] at h; exact r.slot j s h
    · rw [e2] at h; cases h; exact (show SlOk K F A H j (σ[j]?) (.own io l o) from r.slot j _ e1)
  own := r.own
  inj := r.inj
  frz := r.frz
/-- a loop's whole way, its lock taken off -/
theorem Ext.loop (f : FreeAt sl lk) (e : Ext F A (lockO lk sl) H F' A' sl' H') : Ext F A sl H F' A' (unlockO lk sl') H' := by
  refine ⟨e.mono, e.keep, e.fz, e.ow, fun i io l o h z => ?_, e.there⟩
  by_cases hi : lk = some i
  · subst hi
    obtain ⟨io', o', h'⟩ := f
    rw [h] at h'
    cases h'
    have hlt : i < sl.length := (List.getElem?_eq_some_iff.mp h).1
    have e1 : (lockO (some i) sl)[i]? = some (.own io true o) := by
      unfold lockO
      simp only [h]
      exact List.getElem?_set_self hlt
    obtain ⟨q1, o2, q2, q3⟩ := e.io i io true o e1 (.inr rfl)
    have q4 := q3 rfl
    subst q4
    refine ⟨q1, o2, ?_, fun _ => rfl⟩
    unfold unlockO
    simp only [q2]
    exact List.getElem?_set_self (List.getElem?_eq_some_iff.mp q2).1
  · have e1 : (lockO lk sl)[i]? = some (.own io l o) := by
      rcases lock_get (lk := lk) (sl := sl) i with q | ⟨io2, l2, o2, q1, q2⟩
      · rw [q]; exact h
      · cases lk with
        | none => unfold lockO at q2; exact h
        | some j =>
          unfold lockO
          simp only
          split
          · rw [List.getElem?_set_ne (fun w => hi (by rw [w]))]; exact h
          · exact h
    obtain ⟨q1, o2, q2, q3⟩ := e.io i io l o e1 z
    refine ⟨q1, o2, ?_, q3⟩
    rcases unlock_get (lk := lk) (sl := sl') i with q | ⟨io2, l2, o3, w, _, _⟩
    · rw [q]; exact q2
    · exact (hi w).elim

/-! ### for -/
def loopS (g : D → List Sl → Option (List Sl)) (body : S) : List D → S
  | [] => fun sl => some (.nx, sl)
  | d :: ds => fun sl => match g d sl with
    | none => none
    | some sl1 => match body sl1 with
      | some (.nx, sl2) => loopS g body ds sl2
      | some (.ct, sl2) => loopS g body ds sl2
      | some (.bk, sl2) => some (.nx, sl2)
      | some (.rt r, sl2) => some (.rt r, sl2)
      | none => none
def forS (src : M (List D × Option Nat)) (g : D → List Sl → Option (List Sl)) (body : S) : S := fun sl => match src sl with
  | none => none
  | some ((ds, lk), sl1) => match loopS g body ds (lockO lk sl1) with
    | none => none
    | some (fl, sl2) => some (fl, unlockO lk sl2)
theorem loop_fl {g : D → List Sl → Option (List Sl)} {body : S} : ∀ {ds : List D} {sl sl' : List Sl} {fl : Fl}, loopS g body ds sl = some (fl, sl') → fl = .nx ∨ ∃ r, fl = .rt r
  | [], _, _, _, h => by cases h; exact .inl rfl
  | d :: ds, sl, sl', fl, h => by
    unfold loopS at h
    split at h
    · cases h
    · split at h
      · exact loop_fl h
      · exact loop_fl h
      · cases h; exact .inl rfl
      · cases h; exact .inr ⟨_, rfl⟩
      · cases h
end
section
variable {X : Cx} {tg iter : Expr} {body : List Stmt} {pos : Pos}
theorem ss_for {src : M (List D × Option Nat)} {g : D → List Sl → Option (List Sl)} {m : S} (hp : PassesOwn (model X.prog X.w) X.A X.env X.xe) (hc : X.calm = true) (hi : IE X src tg iter) (hg : GE X g tg) (hb : BS X m body)
    (hs : ∀ x, foldedSetIterable iter X.env x = pure x := by intro _; rfl) : SS X (forS src g m) (.For tg iter body [] pos) := ps_weak (ps_for hp hc hi hg hb hs) fun Dn σ H ⟨F, A, sl, fl, sl', r, hm, q⟩ => by
  unfold forS at hm
  cases e1 : src sl with
  | none => rw [e1] at hm; cases hm
  | some p =>
    obtain ⟨⟨ds, lk⟩, sl1⟩ := p
    rw [e1] at hm
    simp only at hm
    cases e2 : loopS g m ds (lockO lk sl1) with
    | none => rw [e2] at hm; cases hm
    | some p =>
      obtain ⟨fl', sl2⟩ := p
      rw [e2] at hm
      cases hm
      refine ⟨F, A, sl, ds, lk, sl1, r, e1, fun F1 A1 H1 J Kp r1 x1 fr kp sr => ?_⟩
      -- between two turns
      let W : Nat → Nat → L2.St → Hp → Prop := fun i n σ H' => n = ds.length - i ∧ i ≤ ds.length ∧ ∃ F' A' sl', Rel X.K F' A' sl' σ H' ∧ Kp F' A' sl' H' ∧ Ext F1 A1 (lockO lk sl1) H1 F' A' sl' H' ∧ loopS g m (ds.drop i) sl' = some (fl, sl2)
      refine ⟨W, ⟨ds.length, by simp, Nat.zero_le _, F1, A1, lockO lk sl1, r1.lock, kp, Ext.refl r1.lock, by simpa using e2⟩, ?_⟩
      rintro i n σ2 H2 ⟨rfl, hle, F2, A2, s2, r2, k2, x2, l2⟩
      have fin : ∀ {F3 A3 s3 H3}, Ext F1 A1 (lockO lk sl1) H1 F3 A3 s3 H3 → Ext F A sl H F3 A3 (unlockO lk s3) H3 := fun x3 => x1.trans (x3.loop fr)
      by_cases hi : i < ds.length
      · refine .inr ⟨sr.go F2 A2 s2 σ2 H2 i r2 k2 hi, fun σ' H' => ∃ n', W (i + 1) n' σ' H', fun σ' H' ⟨n', w⟩ => ⟨n', by rw [w.1]; omega, w⟩, fun x H3 y => ?_⟩
        obtain ⟨F3, d, hd, g3, p3⟩ := sr.yld F2 A2 s2 σ2 H2 i x H3 r2 k2 hi y
        have hdrop : ds.drop i = d :: ds.drop (i + 1) := by
          obtain ⟨h1, h2⟩ := List.getElem?_eq_some_iff.mp hd
          rw [List.drop_eq_getElem_cons h1, h2]
        rw [hdrop] at l2
        unfold loopS at l2
        cases e3 : g d s2 with
        | none => rw [e3] at l2; cases l2
        | some s3 =>
          rw [e3] at l2
          simp only at l2
          have r3 := r2.grow g3
          have x3 := g3.ext r2
          refine ⟨F3, A2, s2, d, s3, r3, p3, e3, fun σ4 F4 A4 H4 r4 x4 => ?_⟩
          cases e4 : m s3 with
          | none => rw [e4] at l2; cases l2
          | some p =>
            obtain ⟨f5, s5⟩ := p
            rw [e4] at l2
            refine ⟨F4, A4, s3, f5, s5, r4, e4, fun F5 A5 H5 x5 lv5 => ?_⟩
            have all := ((x2.trans x3).trans x4).trans x5
            cases f5 with
            | nx => exact fun σ5 r5 => ⟨_, rfl, hi, F5, A5, s5, r5, sr.stay _ _ _ _ _ _ _ _ _ r2 k2 ((x3.trans x4).trans x5), all, l2⟩
            | ct => exact fun σ5 r5 => ⟨_, rfl, hi, F5, A5, s5, r5, sr.stay _ _ _ _ _ _ _ _ _ r2 k2 ((x3.trans x4).trans x5), all, l2⟩
            | bk =>
              intro σ5 r5
              cases l2
              exact q F5 A5 H5 (fin all) lv5 σ5 r5.unlock
            | rt v =>
              intro v5 σ5 r5 g5
              cases l2
              refine q F5 A5 H5 (fin all) lv5 v5 σ5 r5.unlock ?_
              have b1 := g5.back r4 ((x2.trans x3).trans x4)
              cases v with
              | d _ => exact b1
              | sl _ => exact b1
              | fr o =>
                obtain ⟨a, rfl, ok, nf, ho⟩ := b1
                refine ⟨a, rfl, ok, nf, ?_⟩
                rcases ho with ho | ⟨j, h1, h2⟩
                · rcases x1.back ho with z | ⟨i, z⟩
                  · exact .inl z
                  · obtain ⟨u, w⟩ := x1.there i a z
                    rw [ho] at w; cases w
                · rcases x1.ow j a h1 with ⟨i, z⟩ | z
                  · refine .inr ⟨i, z, fun lk' o' w => ?_⟩
                    obtain ⟨p1, o2, p2, _⟩ := x1.io i true lk' o' w (.inl rfl)
                    have := r1.inj j i a h1 (p1.trans z)
                    subst this
                    rcases lock_get (lk := lk) (sl := sl1) j with e | ⟨io, l, o3, q1, q2⟩
                    · rw [← e] at p2; exact h2 _ _ p2
                    · rw [p2] at q1; cases q1; exact h2 _ _ q2
                  · exact .inl z
      · have e : i = ds.length := by omega
        subst e
        refine .inl ⟨sr.stop F2 A2 s2 σ2 H2 _ r2 k2 rfl, ?_⟩
        rw [List.drop_length] at l2
        cases l2
        exact q F2 A2 H2 (fin x2) r2.frz σ2 r2.unlock

/-! ### while -/
def whileS (c : M Bool) (body : S) : Nat → S
  | 0 => fun _ => none
  | n + 1 => fun sl => match c sl with
    | none => none
    | some (false, sl1) => some (.nx, sl1)
    | some (true, sl1) => match body sl1 with
      | some (.nx, sl2) => whileS c body n sl2
      | some (.ct, sl2) => whileS c body n sl2
      | some (.bk, sl2) => some (.nx, sl2)
      | some (.rt r, sl2) => some (.rt r, sl2)
      | none => none
theorem ss_while {mc : M Bool} {m : S} {c : Expr} (N : Nat) (hp : PassesOwn (model X.prog X.w) X.A X.env X.xe) (hc : BT X mc c) (hb : BS X m body) : SS X (whileS mc m N) (.While c body [] pos) := ps_weak (ps_while hp hc hb) fun Dn σ H ⟨F, A, sl, fl, sl', r, hm, q⟩ => by
  let W : Nat → L2.St → Hp → Prop := fun n σ H' => ∃ F' A' s', Rel X.K F' A' s' σ H' ∧ Ext F A sl H F' A' s' H' ∧ whileS mc m n s' = some (fl, sl')
  refine ⟨W, ⟨N, F, A, sl, r, Ext.refl r, hm⟩, ?_⟩
  rintro n σ2 H2 ⟨F2, A2, s2, r2, x2, l2⟩
  cases n with
  | zero => cases l2
  | succ n =>
    unfold whileS at l2
    cases e3 : mc s2 with
    | none => rw [e3] at l2; cases l2
    | some p =>
      obtain ⟨t, s3⟩ := p
      rw [e3] at l2
      refine ⟨F2, A2, s2, t, s3, r2, e3, fun F3 A3 H3 r3 x3 => ?_⟩
      cases t with
      | false =>
        rw [if_neg Bool.false_ne_true]
        cases l2
        exact q F3 A3 H3 (x2.trans x3) r3.frz σ2 r3
      | true =>
        rw [if_pos rfl]
        refine ⟨fun σ' H' => W n σ' H', fun σ' H' w => ⟨n, Nat.lt_succ_self n, w⟩, ?_⟩
        simp only at l2
        cases e4 : m s3 with
        | none => rw [e4] at l2; cases l2
        | some p =>
          obtain ⟨f5, s5⟩ := p
          rw [e4] at l2
          refine ⟨F3, A3, s3, f5, s5, r3, e4, fun F5 A5 H5 x5 lv5 => ?_⟩
          have all := (x2.trans x3).trans x5
          cases f5 with
          | nx => exact fun σ5 r5 => ⟨F5, A5, s5, r5, all, l2⟩
          | ct => exact fun σ5 r5 => ⟨F5, A5, s5, r5, all, l2⟩
          | bk =>
            intro σ5 r5
            cases l2
            exact q F5 A5 H5 all lv5 σ5 r5
          | rt v =>
            intro v5 σ5 r5 g5
            cases l2
            exact q F5 A5 H5 all lv5 v5 σ5 r5 (g5.back r3 (x2.trans x3))
end
end RL
/-! enumerate over a tuple -/
namespace RL
open PySem PySem.Spec PyProof.Rows L2

set_option maxHeartbeats 1000000 in
theorem meets_enumB {v : Value} {o : Obj} {G : Heap → Prop} (B : Begins v o G) :
    Meets (Builtin.«enumerate.__new__» ⟨[.type "enumerate", v], []⟩) (fun _ R s => G s.heap ∧
      R (.ok (.ret (.ref (s.heap.push o).objs.size))) { s with heap := (s.heap.push o).push { cls := .type "enumerate", data := .fields #[.none, .bool false, .ref s.heap.objs.size, rawInt 0, .none, .none] } }) := by
  refine .of_wp fun prog w A R s hh => ?_
  obtain ⟨hp, gg, dd, tt, ss⟩ := s
  obtain ⟨g1, fin⟩ := hh
  have hsub := sub_enumerate
  have q1 : ∀ {A1 : Around} {E1 : Value → Shared → Prop} {Q1 : Value → Shared → Prop}, Q1 (.ref hp.objs.size) ⟨hp.push o, gg, dd, tt, ss⟩ → wpAny (model prog w) A1 (pyIter v) Q1 E1 ⟨hp, gg, dd, tt, ss⟩ :=
    fun z => B.iter prog w _ _ ⟨hp, gg, dd, tt, ss⟩ _ g1 z
  wp_walk using q1
  refine wpAny_stack_any fun st => wpAny_pure ?_
  split
  · rename_i cc _ _ _ _ _
    cases (cc == Value.type "enumerate")
    all_goals
      wp_walk using q1
      exact ⟨_, rfl, fin⟩
  · wp_walk using q1
    exact ⟨_, rfl, fin⟩

section
variable {prog : Program} {w : World} {A : Around} {E : Value → Shared → Prop} {s : Shared}
theorem call_enumT {a : Addr} {items : Array Value} {Q : Value → Shared → Prop} (ht : s.heap.IsTuple a items)
    (h : ∀ h', IsEnum h' (s.heap.objs.size + 1) s.heap.objs.size 0 .none → h'.IsTupleIter s.heap.objs.size a 0 → (∀ b o, s.heap.get? b = some o → h'.get? b = some o) → Q (.ref (s.heap.objs.size + 1)) { s with heap := h' }) :
    wpAny (model prog w) A (call (.type "enumerate") [.ref a]) Q E s := by
  refine callType_new F.called_enumerate (by decide) (F.typeCall_enumerate_1 _) (F.newCall_enumerate_1 _) (fun ob => F.args_object_init_2 ob _) F.entry_enumerate_new
    (meets_enumB (begins_tuple a items)) ⟨ht, ?_⟩
  have z1 : (s.heap.push { cls := .type "tuple_iterator", data := .fields #[.ref a, .int 0 0] }).objs.size = s.heap.objs.size + 1 := Heap.size_push ..
  show _ ∧ _
  rw [z1]
  have z2 : IsEnum ((s.heap.push { cls := .type "tuple_iterator", data := .fields #[.ref a, .int 0 0] }).push { cls := .type "enumerate", data := .fields #[.none, .bool false, .ref s.heap.objs.size, rawInt 0, .none, .none] })
      (s.heap.objs.size + 1) s.heap.objs.size 0 .none := by
    have z3 := Heap.get?_push_size (s.heap.push { cls := .type "tuple_iterator", data := .fields #[.ref a, .int 0 0] }) (o := { cls := .type "enumerate", data := .fields #[.none, .bool false, .ref s.heap.objs.size, rawInt 0, .none, .none] }) rfl
    rw [z1] at z3
    exact z3
  exact ⟨⟨_, z2, rfl⟩, h _ z2 ⟨_, Heap.get?_push_of_some _ (Heap.get?_push_size _ rfl), rfl, rfl⟩ fun b ob q => Heap.get?_push_of_some _ (Heap.get?_push_of_some _ q)⟩
end

/-- a tuple's items, each with its place, in new pairs -/
def ItE (K : PySem.W.Frag) (a : Addr) : It :=
  ⟨fun i H => ∃ (xs : List V) (x : V), SqT K H a xs ∧ xs[i]? = some x,
   fun i H v H' => ∃ t x, v = .ref t ∧ H t = none ∧ H' = upd H t (.tup [.int (i : Nat), x]) ∧ ∀ xs, SqT K H a xs → xs[i]? = some x,
   fun i H => ∃ xs : List V, SqT K H a xs ∧ xs.length = i⟩
theorem tup_ne {X : Cx} {pins : List (Addr × Obj)} {σ : L2.St} {H : Hp} {s : Shared} {a it : Addr} {xs : List V} {i : Nat} (I : Inv X pins σ H s) (hq : SqT X.K H a xs) (hi : s.heap.IsTupleIter it a i) : a ≠ it := by
  rintro rfl
  obtain ⟨its, _, ⟨o, ho, hc, _⟩, _⟩ := I.tuple hq
  obtain ⟨o2, ho2, hc2, _⟩ := hi
  rw [ho] at ho2
  cases ho2
  rw [hc] at hc2
  exact absurd hc2 (by decide)
theorem turn_enumT {P : Program} {w : World} {K : PySem.W.Frag} {elts : List Expr} {kk : Nat} {tpos : Pos} (a e it : Addr) :
    Turn P w K (.Tuple elts kk tpos) (ItE K a) [e, it] e (fun i h => (∃ old, IsEnum h e it ((i : Nat) : Int) old) ∧ h.IsTupleIter it a i ∧ e ≠ it) where
  mem := List.mem_cons_self
  obj := fun i h st b hb => by
    obtain ⟨⟨old, g1⟩, ⟨o, g2, g3, g4⟩, _⟩ := st
    rcases (show b = e ∨ b = it by simpa using hb) with rfl | rfl
    · exact ⟨_, g1, fun v q => nomatch q⟩
    · exact ⟨o, g2, fun v q => by rw [g4] at q; cases q⟩
  keep := fun i h h' st k => by
    obtain ⟨⟨old, g1⟩, g2, g3⟩ := st
    exact ⟨⟨old, k e (by simp) _ g1⟩, g2.at fun o q => k it (by simp) o q, g3⟩
  item := by
    rintro X rfl rfl rfl hc i pins s σ H E I hf ⟨⟨old, g1⟩, g2, g3⟩ ⟨xs, x, hq, hx⟩
    obtain ⟨its, rv, p, hz⟩ := I.tuple hq
    obtain ⟨u, hu, ru⟩ := rv.get hx
    have le : e < s.heap.objs.size := Heap.lt_size g1
    have li : it < s.heap.objs.size := by
      obtain ⟨_, q, _⟩ := g2
      exact Heap.lt_size q
    have ilt : i < its.toArray.size := by
      obtain ⟨q, _⟩ := List.getElem?_eq_some_iff.mp hu
      simpa using q
    have nea : a ≠ e := by
      rintro rfl
      obtain ⟨_, _, ⟨o, ho, hc, _⟩, _⟩ := I.tuple hq
      have g1' : s.heap.get? a = some _ := g1
      rw [ho] at g1'
      cases g1'
      exact absurd (show Value.type "enumerate" = Value.type "tuple" from hc) (by decide)
    have hd : X.A.in1.handled = none := I.ok.hd hc
    refine wpAny_pyNext_enum_itemD (Draws.tuple hd it a (tup_ne I hq g2) its.toArray) g1 ⟨g2, p⟩ ilt g3 (by simp [g3, nea.symm]) fun y h' tk hy ho hst hT hsz hk => ?_
    obtain rfl : y = u := by
      have : its.toArray[i]? = some y := hy
      have e2 : its[i]? = some y := by simpa using this
      rw [hu] at e2
      exact (Option.some.inj e2).symm
    refine ⟨_, rfl, wpAny_letOwnedTupleGo_enum (s := { s with heap := h', toks := tk + 1 }) ho fun h2 he2 sb => ?_⟩
    have T2 : h2.get? s.heap.objs.size = some { cls := .type "tuple", data := .seq #[.int i tk, y] } := (sb.2 _ (Nat.ne_of_gt le)).trans hT
    have new : ObjOk X.prog X.w (upd H s.heap.objs.size (.tup [.int (i : Nat), x])) h2 s.heap.objs.size (.tup [.int (i : Nat), x]) :=
      ⟨(by decide : 2 ≤ sizeLine), [.int i tk, y], .cons ⟨_, rfl⟩ (.cons ru .nil), ⟨_, T2, rfl, _, rfl⟩⟩
    have J : Inv X pins σ (upd H s.heap.objs.size (.tup [.int (i : Nat), x])) { s with heap := h2, toks := tk + 1 } :=
      I.turnedNew (ch := [e, it]) (fun b ob hb q => by
        have n1 : b ≠ e := fun z => hb (by simp [z])
        have n2 : b ≠ it := fun z => hb (by simp [z])
        exact (sb.2 b n1).trans (hk b ob n1 n2 q)) hf (Nat.le_refl _) new
    refine ⟨.ref s.heap.objs.size, _, J, rfl, ⟨_, x, rfl, I.hok.fresh (Nat.le_refl _), rfl, fun ys hy => by rw [I.tuple_inj hy hq]; exact hx⟩, ⟨⟨y, ?_⟩, hst.1.at fun o q => (sb.2 it (Ne.symm g3)).trans q, g3⟩, fun b hb => ?_⟩
    · rw [show ((i + 1 : Nat) : Int) = (i : Int) + 1 by omega]
      exact he2
    · have lb : b < s.heap.objs.size := by
        rcases (show b = e ∨ b = it by simpa using hb) with rfl | rfl
        · exact le
        · exact li
      rw [upd_ne (Nat.ne_of_lt lb)]
      exact (hf b hb).1
  done := by
    rintro X rfl rfl rfl hc i pins s σ H E I hf ⟨⟨old, g1⟩, g2, g3⟩ ⟨xs, hq, hx⟩
    obtain ⟨its, rv, p, hz⟩ := I.tuple hq
    obtain ⟨f0, f1, f2, f3, f4, f5⟩ := hf it (by simp)
    have hl : its.toArray.size = i := by rw [List.size_toArray, ← rv.length]; exact hx
    have hd : X.A.in1.handled = none := I.ok.hd hc
    exact wpAny_pyNext_enum_endD (Draws.tuple hd it a (tup_ne I hq g2) its.toArray) g1 (by rw [hl]; exact ⟨g2, p⟩) fun h' eb => ⟨rfl, I.turned (t' := s.toks) (fun b o hb q => eb b o hb q) f0 f1 f3 f4 f5⟩
  self := fun A i s Q E st h => by
    obtain ⟨⟨_, g1⟩, _⟩ := st
    exact wpAny_pyIter_enum g1 h
def iEnumA (K : PySem.W.Frag) (ta : TA) : TI := fun σ H R => ta σ H fun vs H1 => ∃ a xs, vs = [.ref a] ∧ ((SqL K H1 a xs ∧ R (Ite K a) H1) ∨ (SqT K H1 a xs ∧ R (ItE K a) H1))
theorem pi_enumA {X : Cx} {e : Expr} {ta : TA} {p pos tpos : Pos} {elts : List Expr} {kk : Nat} (hg : Gl X "enumerate") (hm : X.mg "enumerate" = none) (ha : PA X [e] ta) (hs : starEach [e] X.env = [(false, eval e X.env)] := by rfl) :
    PI X (.Tuple elts kk tpos) (.Call (.Name "enumerate" p) [e] [] pos) (iEnumA X.K ta) := by
  refine ⟨fun pins s σ H R I h => ?_⟩
  refine Call_ (ld_blt I hg hm boot_enumerate (callWith_type1 (thn (ha.run pos pins s σ H _ I h) fun us s1 ⟨vs, H1, J, r1, a, xs, ev, w⟩ => ?_) hs rfl))
  subst ev
  cases r1 with
  | cons r rr =>
    cases rr
    cases r
    have sz : ∀ b ∈ [s1.heap.objs.size + 1, s1.heap.objs.size], s1.heap.objs.size ≤ b := fun b hb => by
      rcases (show b = s1.heap.objs.size + 1 ∨ b = s1.heap.objs.size by simpa using hb) with rfl | rfl
      · exact Nat.le_add_right _ _
      · exact Nat.le_refl _
    rcases w with ⟨hq, w⟩ | ⟨hq, w⟩
    · obtain ⟨its, rv, pl, hz⟩ := J.list hq
      refine call_enumerate_list pl.isList fun h' he hit hsz hk => wpAny_pyIter_enum he ?_
      exact ⟨s1.heap.objs.size + 1, [s1.heap.objs.size + 1, s1.heap.objs.size], _, _, H1, rfl, J.kept (t' := s1.toks) hk, turn_enum a _ _, ⟨⟨.none, he⟩, hit, Nat.succ_ne_self _⟩, fun b hb => J.fpOk (sz b hb) (J.hok.fresh (sz b hb)), w⟩
    · obtain ⟨its, rv, pl, hz⟩ := J.tuple hq
      refine call_enumT (show s1.heap.IsTuple a its.toArray from pl) fun h' he hit hk => wpAny_pyIter_enum he ?_
      exact ⟨s1.heap.objs.size + 1, [s1.heap.objs.size + 1, s1.heap.objs.size], _, _, H1, rfl, J.kept (t' := s1.toks) hk, turn_enumT a _ _, ⟨⟨.none, he⟩, hit, Nat.succ_ne_self _⟩, fun b hb => J.fpOk (sz b hb) (J.hok.fresh (sz b hb)), w⟩
end RL
namespace RL
open PySem PySem.Spec PyProof.Rows L2

/-! ### lists and tuples walked -/
abbrev KP := (Addr → Prop) → (Nat → Option Addr) → List Sl → Hp → Prop
structure LS (K : PySem.W.Frag) (Kp : KP) (a : Addr) (ds : List D) : Prop where
  stay : ∀ F A sl σ H F' A' sl' H', Rel K F A sl σ H → Kp F A sl H → Ext F A sl H F' A' sl' H' → Kp F' A' sl' H'
  seq : ∀ F A sl σ H, Rel K F A sl σ H → Kp F A sl H → ∃ vs, SqL K H a vs ∧ RpAll K F H vs ds
structure LT (K : PySem.W.Frag) (Kp : KP) (a : Addr) (ds : List D) : Prop where
  stay : ∀ F A sl σ H F' A' sl' H', Rel K F A sl σ H → Kp F A sl H → Ext F A sl H F' A' sl' H' → Kp F' A' sl' H'
  seq : ∀ F A sl σ H, Rel K F A sl σ H → Kp F A sl H → ∃ vs, SqT K H a vs ∧ RpAll K F H vs ds
def walkRv : Rv → M (List D × Option Nat)
  | .d x => opt ((seqOf x).map fun ds => (ds, none))
  | .fr (.lst ds) => pure (ds, none)
  | .fr _ => fun _ => none
  | .sl i => fun sl => match sl[i]? with
    | some (.val d) => (seqOf d).map fun ds => ((ds, none), sl)
    | some (.own _ false (.lst ds)) => some ((ds, some i), sl)
    | some (.own _ true (.lst ds)) => some ((ds, none), sl)
    | _ => none
section
variable {K : PySem.W.Frag} {F F' F0 F1 F2 : Addr → Prop} {A A' A0 A1 A2 : Nat → Option Addr} {sl sl' sl0 sl1 sl2 : List Sl} {σ σ' : L2.St} {H H' H0 H1 H2 : Hp} {lk : Option Nat}
theorem data_src {v : V} {x : D} {ds : List D} (p : Rp K F H v x) (e : seqOf x = some ds) : ∃ a, v = .ref a ∧ ∃ Kp : KP, Kp F A sl H ∧ (LS K Kp a ds ∨ LT K Kp a ds) := by
  cases x <;> simp [seqOf] at e
  · subst e
    cases p with
    | lst f t =>
      refine ⟨_, rfl, fun F _ _ H => FL F H _ _ ∧ RpAll K F H _ _, ⟨f, t⟩, .inl ⟨fun F A sl σ H F' A' sl' H' r k e => ⟨k.1.stay (r.stay e), k.2.stay (r.stay e)⟩, fun F A sl σ H r k => ⟨_, k.1.seq, k.2⟩⟩⟩
  · subst e
    cases p with
    | tup f t =>
      refine ⟨_, rfl, fun F _ _ H => FT K F H _ _ ∧ RpAll K F H _ _, ⟨f, t⟩, .inr ⟨fun F A sl σ H F' A' sl' H' r k e => ⟨k.1.stay (r.stay e), k.2.stay (r.stay e)⟩, fun F A sl σ H r k => ⟨_, k.1.seq, k.2⟩⟩⟩
theorem own_src {i : Nat} {io : Bool} {ds : List D} {a : Addr} (ha : A i = some a) (e : sl[i]? = some (.own io true (.lst ds))) : ∃ Kp : KP, Kp F A sl H ∧ LS K Kp a ds := by
  refine ⟨fun _ A sl _ => A i = some a ∧ sl[i]? = some (.own io true (.lst ds)), ⟨ha, e⟩, ⟨fun F A sl σ H F' A' sl' H' r k e => ?_, fun F A sl σ H r k => ?_⟩⟩
  · obtain ⟨q1, o, q2, q3⟩ := e.io i io true _ k.2 (.inr rfl)
    rw [q3 rfl] at q2
    exact ⟨q1.trans k.1, q2⟩
  · obtain ⟨b, _, e2, vs, e3, t⟩ := r.slot i _ k.2
    rw [k.1] at e2; cases e2
    exact ⟨vs, .inl (.inl e3), t⟩
theorem walk_ok {v : V} {x : Rv} {ds : List D} (r : Rel K F A sl σ H) (e0 : Ext F0 A0 sl0 H0 F A sl H) (ok : RvOk K F A H σ v x) (nw : NewOf H0 v x) (h : walkRv x sl = some ((ds, lk), sl')) :
    sl' = sl ∧ FreeAt sl lk ∧ ∃ F', Rel K F' A sl σ H ∧ Ext F0 A0 sl0 H0 F' A sl H ∧ ∃ a, v = .ref a ∧ ∃ Kp : KP, Kp F' A (lockO lk sl) H ∧ (LS K Kp a ds ∨ LT K Kp a ds) := by
  cases x with
  | d x =>
    obtain ⟨h1, rfl⟩ := opt_some h
    obtain ⟨ds', h2, h3⟩ := Option.map_eq_some_iff.mp h1
    cases h3
    exact ⟨rfl, trivial, F, r, e0, data_src ok h2⟩
  | fr o =>
    cases o with
    | dk _ => cases h
    | dt _ => cases h
    | lst ds' =>
      obtain ⟨h1, rfl⟩ := pure_some h
      cases h1
      obtain ⟨F', A', r', e', p⟩ := take_ok (d := .list ds) r e0 ok nw rfl
      have hF : ∃ F', Rel K F' A sl' σ H ∧ Ext F0 A0 sl0 H0 F' A sl' H ∧ Rp K F' H v (.list ds) := by
        obtain ⟨a, rfl, ⟨vs, e, q⟩, nf, na⟩ := ok
        refine ⟨plus1 F a, ⟨r.len, fun i s hs => (r.slot i s hs).stay stay_plus fun b hb => ⟨hb, fun _ z => z⟩, fun i b hb => ⟨fun f => ?_, (r.own i b hb).2⟩, r.inj, fun b f => ?_⟩,
          ⟨fun b f => .inl (e0.mono b f), e0.keep, fun b f => ?_, e0.ow, e0.io, e0.there⟩, .lst ⟨.inr rfl, e⟩ (q.stay stay_plus)⟩
        · rcases f with f | rfl
          · exact (r.own i b hb).1 f
          · exact na i hb
        · rcases f with f | rfl
          · exact r.frz b f
          · exact ⟨_, e⟩
        · rcases f with f | rfl
          · exact e0.fz b f
          · exact .inr (.inl (nw b rfl))
      obtain ⟨F2, r2, e2, p2⟩ := hF
      exact ⟨rfl, trivial, F2, r2, e2, data_src p2 rfl⟩
  | sl i =>
    have ok' : σ[i]? = some (some v) := ok
    unfold walkRv at h
    cases e : sl[i]? with
    | none => simp [e] at h
    | some s =>
      have so := r.slot i s e
      rw [ok'] at so
      cases s with
      | nil => simp [e] at h
      | val d =>
        simp only [e] at h
        obtain ⟨ds', h2, h3⟩ := Option.map_eq_some_iff.mp h
        cases h3
        obtain ⟨w, e1, p⟩ := so
        cases e1
        exact ⟨rfl, trivial, F, r, e0, data_src p h2⟩
      | own io l o =>
        cases o with
        | dk _ => cases l <;> simp [e] at h
        | dt _ => cases l <;> simp [e] at h
        | lst ds' =>
          obtain ⟨a, e1, e2, q⟩ := so
          cases e1
          cases l with
          | false =>
            simp [e] at h
            obtain ⟨⟨rfl, rfl⟩, rfl⟩ := h
            have e3 : (lockO (some i) sl)[i]? = some (.own io true (.lst ds')) := by
              unfold lockO
              simp only [e]
              exact List.getElem?_set_self (List.getElem?_eq_some_iff.mp e).1
            obtain ⟨Kp, k, ls⟩ := own_src (K := K) (F := F) (H := H) e2 e3
            exact ⟨rfl, ⟨io, _, e⟩, F, r, e0, a, rfl, Kp, k, .inl ls⟩
          | true =>
            simp [e] at h
            obtain ⟨⟨rfl, rfl⟩, rfl⟩ := h
            obtain ⟨Kp, k, ls⟩ := own_src (K := K) (F := F) (H := H) e2 e
            exact ⟨rfl, trivial, F, r, e0, a, rfl, Kp, k, .inl ls⟩
theorem src_list {Kp : KP} {a : Addr} {ds : List D} (h : LS K Kp a ds) : Src K ds (Itl K a) Kp where
  stay := h.stay
  go := fun F A sl σ H i r k hi => by
    obtain ⟨vs, s, t⟩ := h.seq F A sl σ H r k
    have hl : i < vs.length := by rw [t.length]; exact hi
    exact ⟨vs, vs[i], s, List.getElem?_eq_getElem hl⟩
  yld := fun F A sl σ H i x H' r k hi y => by
    obtain ⟨rfl, y⟩ := y
    obtain ⟨vs, s, t⟩ := h.seq F A sl σ _ r k
    obtain ⟨d, hd, p⟩ := t.get (y vs s)
    exact ⟨F, d, hd, Grow.refl, p⟩
  stop := fun F A sl σ H i r k hi => by
    obtain ⟨vs, s, t⟩ := h.seq F A sl σ H r k
    exact ⟨vs, s, by rw [t.length]; exact Nat.le_of_eq hi.symm⟩
theorem src_tup {Kp : KP} {a : Addr} {ds : List D} (h : LT K Kp a ds) : Src K ds (Itt K a) Kp where
  stay := h.stay
  go := fun F A sl σ H i r k hi => by
    obtain ⟨vs, s, t⟩ := h.seq F A sl σ H r k
    have hl : i < vs.length := by rw [t.length]; exact hi
    exact ⟨vs, vs[i], s, List.getElem?_eq_getElem hl⟩
  yld := fun F A sl σ H i x H' r k hi y => by
    obtain ⟨rfl, y⟩ := y
    obtain ⟨vs, s, t⟩ := h.seq F A sl σ _ r k
    obtain ⟨d, hd, p⟩ := t.get (y vs s)
    exact ⟨F, d, hd, Grow.refl, p⟩
  stop := fun F A sl σ H i r k hi => by
    obtain ⟨vs, s, t⟩ := h.seq F A sl σ H r k
    exact ⟨vs, s, by rw [t.length]; exact Nat.le_of_eq hi.symm⟩
/-- 0, 1 and so on, each with its item -/
def numbered : Nat → List D → List D
  | _, [] => []
  | k, d :: ds => .tuple [.int (k : Nat), d] :: numbered (k + 1) ds
theorem numbered_len : ∀ (k : Nat) (ds : List D), (numbered k ds).length = ds.length
  | _, [] => rfl
  | k, d :: ds => congrArg (· + 1) (numbered_len (k + 1) ds)
theorem numbered_get : ∀ (k : Nat) (ds : List D) (i : Nat) (d : D), ds[i]? = some d → (numbered k ds)[i]? = some (.tuple [.int ((k + i : Nat) : Int), d])
  | _, [], _, _, h => by simp at h
  | k, d :: ds, 0, e, h => by
    have : d = e := by simpa using h
    subst this; rfl
  | k, d :: ds, i + 1, e, h => by
    have := numbered_get (k + 1) ds i e (by simpa using h)
    rw [show k + (i + 1) = k + 1 + i by omega]
    exact this
theorem src_enum {Kp : KP} {a : Addr} {ds : List D} (h : LS K Kp a ds) : Src K (numbered 0 ds) (Ite K a) Kp where
  stay := h.stay
  go := fun F A sl σ H i r k hi => by
    obtain ⟨vs, s, t⟩ := h.seq F A sl σ H r k
    have hl : i < vs.length := by rw [t.length, ← numbered_len 0 ds]; exact hi
    exact ⟨vs, vs[i], s, List.getElem?_eq_getElem hl⟩
  yld := fun F A sl σ H i x H' r k hi y => by
    obtain ⟨T, z, rfl, n, rfl, y⟩ := y
    obtain ⟨vs, s, t⟩ := h.seq F A sl σ _ r k
    obtain ⟨d, hd, p⟩ := t.get (y vs s)
    obtain ⟨g, rg⟩ := grow_tup (K := K) (F := F) (vs := [.int (i : Nat), z]) (ds := [.int (i : Nat), d]) n (.cons (.int _) (.cons p .nil))
    refine ⟨_, .tuple [.int (i : Nat), d], ?_, g, rg⟩
    have := numbered_get 0 ds i d hd
    rw [Nat.zero_add] at this
    exact this
  stop := fun F A sl σ H i r k hi => by
    obtain ⟨vs, s, t⟩ := h.seq F A sl σ H r k
    exact ⟨vs, s, by rw [t.length, ← numbered_len 0 ds]; exact Nat.le_of_eq hi.symm⟩
theorem src_enumT {Kp : KP} {a : Addr} {ds : List D} (h : LT K Kp a ds) : Src K (numbered 0 ds) (ItE K a) Kp where
  stay := h.stay
  go := fun F A sl σ H i r k hi => by
    obtain ⟨vs, s, t⟩ := h.seq F A sl σ H r k
    have hl : i < vs.length := by rw [t.length, ← numbered_len 0 ds]; exact hi
    exact ⟨vs, vs[i], s, List.getElem?_eq_getElem hl⟩
  yld := fun F A sl σ H i x H' r k hi y => by
    obtain ⟨T, z, rfl, n, rfl, y⟩ := y
    obtain ⟨vs, s, t⟩ := h.seq F A sl σ _ r k
    obtain ⟨d, hd, p⟩ := t.get (y vs s)
    obtain ⟨g, rg⟩ := grow_tup (K := K) (F := F) (vs := [.int (i : Nat), z]) (ds := [.int (i : Nat), d]) n (.cons (.int _) (.cons p .nil))
    refine ⟨_, .tuple [.int (i : Nat), d], ?_, g, rg⟩
    have := numbered_get 0 ds i d hd
    rw [Nat.zero_add] at this
    exact this
  stop := fun F A sl σ H i r k hi => by
    obtain ⟨vs, s, t⟩ := h.seq F A sl σ H r k
    exact ⟨vs, s, by rw [t.length, ← numbered_len 0 ds]; exact hi.symm⟩
/-- lo, lo + 1, .. -/
def rangeD (lo : Int) (n : Nat) : List D := (List.range n).map fun i => .int (lo + (i : Nat))
theorem src_range {lo : Int} {n : Nat} : Src K (rangeD lo n) (Itr lo n) (fun _ _ _ _ => True) where
  stay := fun _ _ _ _ _ _ _ _ _ _ _ _ => trivial
  go := fun F A sl σ H i r k hi => by
    have h : i < n := by simpa [rangeD] using hi
    exact h
  yld := fun F A sl σ H i x H' r k hi y => by
    obtain ⟨rfl, rfl⟩ := y
    have h : i < n := by simpa [rangeD] using hi
    exact ⟨F, .int (lo + i), by simp [rangeD, h], Grow.refl, .int _⟩
  stop := fun F A sl σ H i r k hi => by
    have h : n = i := by simpa [rangeD] using hi.symm
    exact Nat.le_of_eq h
end

section
variable {X : Cx} {tg l e : Expr} {pos p : Pos}
def iSeq (K : PySem.W.Frag) (tl : TE) : TI := fun σ H R => tl σ H fun x H1 => ∃ a, x = .ref a ∧ (((∃ xs, SqL K H1 a xs) ∧ R (Itl K a) H1) ∨ ((∃ xs, SqT K H1 a xs) ∧ R (Itt K a) H1))
theorem pi_seq {tl : TE} (hl : PE X l tl) : PI X tg l (iSeq X.K tl) := by
  refine ⟨fun pins s σ H R I h => thn (hl.run pins s σ H _ I h) fun v s1 ⟨x, H1, J, r1, a, ex, w⟩ => ?_⟩
  subst ex
  obtain rfl : v = Value.ref a := r1
  rcases w with ⟨⟨xs, hq⟩, w⟩ | ⟨⟨xs, hq⟩, w⟩
  · obtain ⟨its, _, pl, _⟩ := J.list hq
    exact wpAny_pyIter_list pl.isList (pi_one J _ (turn_list a _) ⟨_, Heap.get?_push_size _ rfl, rfl, rfl⟩ w)
  · obtain ⟨its, _, pl, _⟩ := J.tuple hq
    exact wpAny_pyIter_tuple (show s1.heap.IsTuple a its.toArray from pl) (pi_one J _ (turn_tuple a _) ⟨_, Heap.get?_push_size _ rfl, rfl, rfl⟩ w)
theorem ie_seq {m : M Rv} (h : RE X m l) : IE X (m >>= walkRv) tg l := pi_weak (pi_seq h) fun σ H R ⟨F, A, sl, ds, lk, sl', r, hm, q⟩ => by
  obtain ⟨x, sl1, h1, h2⟩ := bind_some hm
  refine ⟨F, A, sl, x, sl1, r, h1, fun v F1 A1 H1 r1 e1 ok nw => ?_⟩
  obtain ⟨rfl, fr, F2, r2, e2, a, rfl, Kp, k, hs⟩ := walk_ok r1 e1 ok nw h2
  rcases hs with hs | hs
  · obtain ⟨vs, sq, _⟩ := hs.seq _ _ _ _ _ r2.lock k
    exact ⟨a, rfl, .inl ⟨⟨vs, sq⟩, q F2 A1 H1 _ Kp r2 e2 fr k (src_list hs)⟩⟩
  · obtain ⟨vs, sq, _⟩ := hs.seq _ _ _ _ _ r2.lock k
    exact ⟨a, rfl, .inr ⟨⟨vs, sq⟩, q F2 A1 H1 _ Kp r2 e2 fr k (src_tup hs)⟩⟩
def intD : D → Option Int
  | .int i => some i
  | _ => none
theorem intD_some {d : D} {i : Int} (h : intD d = some i) : d = .int i := by
  cases d <;> simp [intD] at h
  rw [h]
/-- the ints that a range tells -/
def rng1 : List D → Option (List D)
  | [.int j] => if -(2 ^ 62) ≤ j ∧ j < 2 ^ 62 then some (rangeD 0 j.toNat) else none
  | _ => none
def rng2 : List D → Option (List D)
  | [.int i, .int j] => if -(2 ^ 62) ≤ i ∧ i < 2 ^ 62 ∧ -(2 ^ 62) ≤ j ∧ j < 2 ^ 62 then some (rangeD i (j - i).toNat) else none
  | _ => none
def rngM (f : List D → Option (List D)) (m : M (List D)) : M (List D × Option Nat) := do
  let ds ← m
  let xs ← opt (f ds)
  pure (xs, none)
theorem rngM_some {f : List D → Option (List D)} {m : M (List D)} {sl sl' : List Sl} {ds : List D} {lk : Option Nat} (h : rngM f m sl = some ((ds, lk), sl')) : ∃ xs, m sl = some (xs, sl') ∧ f xs = some ds ∧ lk = none := by
  obtain ⟨xs, sl1, h1, h2⟩ := bind_some h
  obtain ⟨ys, sl2, h3, h4⟩ := bind_some h2
  obtain ⟨h5, rfl⟩ := opt_some h3
  obtain ⟨h6, rfl⟩ := pure_some h4
  cases h6
  exact ⟨xs, h1, h5, rfl⟩
theorem ie_range1 {a : Expr} {m : M (List D)} (hg : Gl X "range") (hm : X.mg "range" = none) (ha : AD X m [a]) (hs : starEach [a] X.env = [(false, eval a X.env)] := by rfl) :
    IE X (rngM rng1 m) tg (.Call (.Name "range" p) [a] [] pos) := pi_weak (pi_range1 hg hm ha hs) fun σ H R ⟨F, A, sl, ds, lk, sl', r, hm, q⟩ => by
  obtain ⟨xs, h1, h2, rfl⟩ := rngM_some hm
  unfold rng1 at h2
  split at h2
  · split at h2
    · rename_i hj
      cases h2
      refine ⟨F, A, sl, _, _, r, h1, fun vs F1 A1 H1 r1 e1 p => ?_⟩
      cases p with
      | cons p t =>
        cases t
        obtain rfl := p.eqInt
        exact ⟨_, rfl, hj.1, hj.2, q F1 A1 H1 _ _ r1 e1 trivial trivial src_range⟩
    · cases h2
  · cases h2
theorem ie_range2 {a b : Expr} {m : M (List D)} (hg : Gl X "range") (hm : X.mg "range" = none) (ha : AD X m [a, b]) (hs : starEach [a, b] X.env = [(false, eval a X.env), (false, eval b X.env)] := by rfl) (hs2 : starEach [b] X.env = [(false, eval b X.env)] := by rfl) :
    IE X (rngM rng2 m) tg (.Call (.Name "range" p) [a, b] [] pos) := pi_weak (pi_range2 hg hm ha hs hs2) fun σ H R ⟨F, A, sl, ds, lk, sl', r, hm, q⟩ => by
  obtain ⟨xs, h1, h2, rfl⟩ := rngM_some hm
  unfold rng2 at h2
  split at h2
  · split at h2
    · rename_i hj
      cases h2
      refine ⟨F, A, sl, _, _, r, h1, fun vs F1 A1 H1 r1 e1 p => ?_⟩
      cases p with
      | cons p t =>
        cases t with
        | cons p2 t =>
          cases t
          obtain rfl := p.eqInt
          obtain rfl := p2.eqInt
          exact ⟨_, _, rfl, hj, q F1 A1 H1 _ _ r1 e1 trivial trivial src_range⟩
    · cases h2
  · cases h2
def enumM (m : M Rv) : M (List D × Option Nat) := do
  let x ← m
  let p ← walkRv x
  pure (numbered 0 p.1, p.2)
theorem ie_enum {m : M Rv} {elts : List Expr} {kk : Nat} {tpos : Pos} (hg : Gl X "enumerate") (hm : X.mg "enumerate" = none) (ha : RE X m e) (hs : starEach [e] X.env = [(false, eval e X.env)] := by rfl) (hs' : starEach [e] X.env = (false, eval e X.env) :: starEach [] X.env := by rfl) :
    IE X (enumM m) (.Tuple elts kk tpos) (.Call (.Name "enumerate" p) [e] [] pos) := pi_weak (pi_enumA hg hm (ar_cons ha ar_nil hs') hs) fun σ H R ⟨F, A, sl, ds, lk, sl', r, hm, q⟩ => by
  obtain ⟨x, sl1, h1, h2⟩ := bind_some hm
  obtain ⟨⟨es, lk'⟩, sl2, h3, h4⟩ := bind_some h2
  obtain ⟨h5, rfl⟩ := pure_some h4
  cases h5
  refine ⟨F, A, sl, [x], sl1, r, (bind_run h1).trans rfl, fun vs F1 A1 H1 r1 e1 ok ap => ?_⟩
  cases ok with
  | cons ok t =>
    cases t
    cases ap with
    | cons nw _ _ =>
      obtain ⟨rfl, fr, F2, r2, e2, a, rfl, Kp, k, hs⟩ := walk_ok r1 e1 ok nw h3
      rcases hs with hs | hs
      · obtain ⟨vs, sq, _⟩ := hs.seq _ _ _ _ _ r2.lock k
        exact ⟨a, vs, rfl, .inl ⟨sq, q F2 A1 H1 _ Kp r2 e2 fr k (src_enum hs)⟩⟩
      · obtain ⟨vs, sq, _⟩ := hs.seq _ _ _ _ _ r2.lock k
        exact ⟨a, vs, rfl, .inr ⟨sq, q F2 A1 H1 _ Kp r2 e2 fr k (src_enumT hs)⟩⟩
end
end RL
namespace RL
open PySem PySem.Spec PyProof.Rows L2

/-! ### defs: what they promise where no text of an object is being written -/
structure FnG (P : Program) (w : World) (K : PySem.W.Frag) (mg : Str → Option Value) (base : Heap) (k : Nat) (f : Addr) (fd : FuncData) (ps : List Str) (sp : Sp) : Prop where
  len : ∀ vs H Q E, sp vs H Q E → vs.length = ps.length
  run : ∀ (A : Around) (outer : List Env) (s : Shared) (H : Hp) (args : Args) (us : List Value) (vs : List V) (Q : VK), A.guards = some [] → Room k A → Env0 P w K mg base A outer s H →
    BindsTo s fd args (ps.zip us) → Vals vs us → sp vs H Q E0 → codeAny (model P w) A (.call (.ref f) args) (CR CX0 outer P w H s Q E0) s
theorem FnG.mono {P : Program} {w : World} {K : PySem.W.Frag} {mg : Str → Option Value} {base : Heap} {j k : Nat} {f : Addr} {fd : FuncData} {ps : List Str} {sp : Sp} (F : FnG P w K mg base j f fd ps sp) (h : j ≤ k) : FnG P w K mg base k f fd ps sp :=
  ⟨F.len, fun A outer s H args us vs Q g hr => F.run A outer s H args us vs Q g (hr.mono h)⟩
theorem fnG_of {P : Program} {w : World} {K : PySem.W.Frag} {mg : Str → Option Value} {base : Heap} {x qual : Str} {st : Stmt} {f : Addr} {fd : FuncData} {N ps : List Str} {k : Nat} {sp : Sp} (Fn : Fun K x qual st f fd) (Sc : FnScope N ps (defScope st)) (len : ∀ vs H Q E, sp vs H Q E → vs.length = ps.length)
    (hbody : ∀ (cdv : Value) (A : Around) (outer : List Env) (s : Shared) (H : Hp) (vs : List V) (Q : VK), A.guards = some [] → Room k (A.deeper (envOfC qual (defScope st) s.heap.objs.size f cdv)) → sp vs H Q E0 →
      ∃ t, PSs (cxOf CX0 P w K mg base N qual (defScope st) f cdv A outer s H E0).nox (defBody st) t ∧ t { nx := fun _ H' => Q .non H', rt := Q } (start N vs) H) : FnG P w K mg base (k + 1) f fd ps sp := by
  obtain ⟨oc, od, kV, doc, pm, an, cdv, ct, osl, rfl, lk, hcd⟩ := Fn.ex
  refine ⟨len, fun A outer s H args us vs Q hg hr e0 hb r hsp => ?_⟩
  have l1 := len _ _ _ _ hsp
  have up : ∀ b o, base.get? b = some o → s.heap.get? b = some o := fun b o e => (e0.bs b o e).1
  have KX : K.In s.heap := e0.mod.kin.keeps up
  have lim : s.heap.NoLimit := e0.mod.nolimit.keeps up
  have kinds : ∀ y ∈ ps.zip us, (defScope st).names.lookup y.1 = some .local ∨ ((defScope st).names.lookup y.1 = some .cell ∧ ((cellsFrom (s.heap.objs.size + 1) (defScope st).names []).lookup y.1).isSome = true) := by
    rintro ⟨n, v⟩ hy
    rcases Sc.par n (List.of_mem_zip hy).1 with q | q
    · exact .inl q
    · exact .inr ⟨q, PySem.W.cellsFrom_some _ _ _ (.inl q)⟩
  refine codeAny_call_function hr.depth (KX _ _ lk) rfl Sc.co Sc.gen rfl (PySem.W.codeRec_of KX hcd) (hb _ _ _ _ (wpAny_newFunctionEnv_cells Sc.kind kinds fun env he s1 z => ?_))
  subst he
  obtain ⟨t, ht, hq⟩ := hbody cdv A outer s H vs Q hg (hr.deeper _) hsp
  refine ⟨lim.keeps z.toInCall.keep, codeAny_func (wpAny_mono (ht.nox.run [] s1 (start N vs) H _ (inv_start Sc hr.hd e0 l1 r z) hq) (fun fl s' hs => ?_) fun e s' hs => hs)⟩
  cases fl with
  | ret u =>
    obtain ⟨v, σ', H', J, rv, q⟩ := hs
    exact ⟨v, H', J.os, J.bare, J.base, J.hok, rv, q⟩
  | next =>
    obtain ⟨σ', H', J, q⟩ := hs
    exact ⟨V.non, H', J.os, J.bare, J.base, J.hok, (rfl : Value.none = Value.none), q⟩
  | brk => exact hs.choose_spec.choose_spec.2.elim
  | cont => exact hs.choose_spec.choose_spec.2.elim
section
variable {X : Cx} {k n : Nat} {f : Addr} {fd : FuncData} {ps ks : List Str} {sp : Sp} {x : Str} {p pos : Pos} {e : Expr} {es : List Expr} {kws : List Keyword} {t tk : TA} {g : List Value → List Value → List Value} {gV : List V → List V → List V}
theorem runG {pins : List (Addr × Obj)} {σ : L2.St} {H : Hp} {s : Shared} {Q : VK} {args : Args} {us : List Value} {vs : List V} (Fn : FnG X.prog X.w X.K X.mg X.base k f fd ps sp) (hg : X.A.guards = some []) (hr : Room k X.A)
    (I : Inv X pins σ H s) (hb : BindsTo s fd args (ps.zip us)) (r : Vals vs us) (h : sp vs H Q E0) : codeAny (model X.prog X.w) X.A (.call (.ref f) args) (fun r s' => match r with | .ok (.ret u) => EP X pins σ Q u s' | _ => False) s := by
  refine codeAny_mono (Fn.run X.A X.stack s H args us vs Q hg hr I.env0 hb r h) fun r s' hq => ?_
  cases r with
  | error e => exact hq.elim
  | ok fl =>
    cases fl with
    | ret u => exact I.after hq
    | next => exact hq.elim
    | brk => exact hq.elim
    | cont => exact hq.elim
theorem wpAny_callG {M : Model} {A : Around} {fv : Value} {us : List Value} {kw : List (Str × Value)} {Q : Value → Shared → Prop} {E : Value → Shared → Prop} {s : Shared} (h : codeAny M A (.call fv ⟨us, kw⟩) (fun r s' => match r with | .ok (.ret u) => Q u s' | _ => False) s) : wpAny M A (call fv us kw) Q E s := by
  refine wpAny_call (codeAny_mono h fun r s' hq => ?_)
  cases r with
  | error e => exact hq.elim
  | ok fl => cases fl <;> exact hq
theorem pe_callG (Fn : FnG X.prog X.w X.K X.mg X.base k f fd ps sp) (hgd : X.A.guards = some []) (hr : Room k X.A) (hg : Gl X x) (hm : X.mg x = some (.ref f)) (hk : PySem.W.keepIn X.K (.ref f) = true) (hb : Binds X.K fd ps [])
    (ha : PA X (e :: es) t) (hdb : (x == ("__debug__" : Str)) = false := by decide) (he : starEach (e :: es) X.env = (false, eval e X.env) :: starEach es X.env := by rfl) (hpl : (backTo pos (starEach es X.env)).any (·.1) = false := by rfl) :
    PE X (.Call (.Name x p) (e :: es) [] pos) (fun σ H Q => t σ H fun vs H1 => sp vs H1 Q E0) := by
  refine ⟨fun pins s σ H Q I h => wpAny_Call_Name_kw (ld_glob I hg hm ?_ hdb)⟩
  refine PySem.W.callWith_K (h₀ := X.base) I.ok.mod.kin hk (thn (ha.run pos pins s σ H _ I h) fun us s1 ⟨vs, H1, J, r, q⟩ => ⟨J.kIn, ?_⟩) he hpl
  have l1 := (r.length.symm.trans (Fn.len _ _ _ _ q))
  have hb' := hb s1 us J.kIn (by rw [List.append_nil]; exact l1)
  rw [List.append_nil] at hb'
  exact wpAny_callG (runG Fn hgd hr J hb' r q)
theorem pe_callG0 (Fn : FnG X.prog X.w X.K X.mg X.base k f fd [] sp) (hgd : X.A.guards = some []) (hr : Room k X.A) (hg : Gl X x) (hm : X.mg x = some (.ref f)) (hk : PySem.W.keepIn X.K (.ref f) = true) (hb : Binds X.K fd [] [])
    (hdb : (x == ("__debug__" : Str)) = false := by decide) : PE X (.Call (.Name x p) [] [] pos) (fun σ H Q => sp [] H Q E0) := by
  refine ⟨fun pins s σ H Q I h => wpAny_Call_Name_kw (ld_glob I hg hm ?_ hdb)⟩
  refine PySem.W.callWith_K0 I.kIn hk (wpAny_callG (runG (us := []) (vs := []) Fn hgd hr I (hb s [] I.kIn rfl) .nil h))
/-- f(k = v, ..), no value ahead of the keywords -/
theorem pe_callGK0 (Fn : FnG X.prog X.w X.K X.mg X.base k f fd ps sp) (hgd : X.A.guards = some []) (hr : Room k X.A) (hg : Gl X x) (hm : X.mg x = some (.ref f)) (hk : PySem.W.keepIn X.K (.ref f) = true) (hb : KBn X.K fd ps 0 ks g gV)
    (hkw : PK X kws tk) (hall : (backToKw pos (keywordEach kws X.env)).all (·.1.isSome) = true := by rfl) (hks : (backToKw pos (keywordEach kws X.env)).filterMap (·.1) = ks := by rfl)
    (hdb : (x == ("__debug__" : Str)) = false := by decide) (hpl : ((backTo pos (starEach [] X.env)).any (·.1) || (backToKw pos (keywordEach kws X.env)).any (·.1.isNone)) = false := by rfl) :
    PE X (.Call (.Name x p) [] kws pos) (fun σ H Q => tk σ H fun zs H1 => zs.length = ks.length ∧ sp (gV [] zs) H1 Q E0) := by
  refine ⟨fun pins s σ H Q I h => wpAny_Call_Name_kw (ld_glob I hg hm ?_ hdb)⟩
  refine PySem.W.callWith_KW0 (h₀ := X.base) I.ok.mod.kin hk hall (thn (hkw.run pos pins s σ H _ I h) fun ws s1 ⟨zs, H1, J, rz, l1, q⟩ => ⟨J.kIn, ?_⟩) hpl
  rw [hks]
  exact wpAny_callG (runG Fn hgd hr J (hb.to s1 [] ws J.kIn rfl (rz.length.symm.trans l1)) (hb.rel .nil rz) q)
/-- f(e, .., k = v, ..) -/
theorem pe_callGK (Fn : FnG X.prog X.w X.K X.mg X.base k f fd ps sp) (hgd : X.A.guards = some []) (hr : Room k X.A) (hg : Gl X x) (hm : X.mg x = some (.ref f)) (hk : PySem.W.keepIn X.K (.ref f) = true) (hb : KBn X.K fd ps n ks g gV)
    (ha : PA X (e :: es) t) (hkw : PK X kws tk) (hall : (backToKw pos (keywordEach kws X.env)).all (·.1.isSome) = true := by rfl) (hks : (backToKw pos (keywordEach kws X.env)).filterMap (·.1) = ks := by rfl)
    (hdb : (x == ("__debug__" : Str)) = false := by decide) (he : starEach (e :: es) X.env = (false, eval e X.env) :: starEach es X.env := by rfl)
    (hpl : ((backTo pos (starEach (e :: es) X.env)).any (·.1) || (backToKw pos (keywordEach kws X.env)).any (·.1.isNone)) = false := by rfl) :
    PE X (.Call (.Name x p) (e :: es) kws pos) (fun σ H Q => t σ H fun vs H1 => tk σ H1 fun zs H2 => vs.length = n ∧ zs.length = ks.length ∧ sp (gV vs zs) H2 Q E0) := by
  refine ⟨fun pins s σ H Q I h => wpAny_Call_Name_kw (ld_glob I hg hm ?_ hdb)⟩
  refine PySem.W.callWith_KW (h₀ := X.base) I.ok.mod.kin hk hall (thn (ha.run pos pins s σ H _ I h) fun us s1 ⟨vs, H1, J, r, q⟩ => thn (hkw.run pos pins s1 σ H1 _ J q) fun ws s2 ⟨zs, H2, J2, rz, l1, l2, q2⟩ => ⟨J2.kIn, ?_⟩) hpl he
  rw [hks]
  exact wpAny_callG (runG Fn hgd hr J2 (hb.to s2 us ws J2.kIn (r.length.symm.trans l1) (rz.length.symm.trans l2)) (hb.rel r rz) q2)
end
end RL
namespace RL
open PySem PySem.Spec PyProof.Rows L2

/-! ### a def on data; a def that is lent its first argument's object -/
def spG (K : PySem.W.Frag) (n : Nat) (g : List D → Option Rv) : Sp := fun vs H Q _ => vs.length = n ∧ ∃ F ds r, Live F H ∧ RpAll K F H vs ds ∧ g ds = some r ∧
  ∀ v F' H', Grow F H F' H' → RvG K F' H H' v r → Q v H'
def spI (K : PySem.W.Frag) (n : Nat) (g : OO → List D → Option (Rv × OO)) : Sp := fun vs H Q _ => vs.length = n ∧ ∃ F a ws o ds r o', vs = .ref a :: ws ∧ Live F H ∧ ¬ F a ∧ OOk K F H a o ∧ RpAll K F H ws ds ∧ g o ds = some (r, o') ∧
  ∀ v F' H', (∀ b, F b → F' b) → (∀ b u, b ≠ a → H b = some u → H' b = some u) → (∀ b, F' b → F b ∨ (H b = none ∧ ∃ u, H' b = some u)) → OOk K F' H' a o' → RvG K F' H H' v r → Q v H'
def finish : Fl → Option Rv
  | .nx => some (.d .none)
  | .rt r => some r
  | _ => none
/-- a def's body on data: nN names in all -/
def runF (nP nN : Nat) (m : S) (ds : List D) : Option Rv := if ds.length = nP then (match m (ds.map Sl.val ++ List.replicate (nN - ds.length) .nil) with
  | some (fl, _) => finish fl
  | none => none) else none
def runI (nP nN : Nat) (m : S) (o : OO) (ds : List D) : Option (Rv × OO) := if ds.length + 1 = nP then (match m (.own true false o :: (ds.map Sl.val ++ List.replicate (nN - (ds.length + 1)) .nil)) with
  | some (fl, .own true false o' :: _) => (finish fl).map fun r => (r, o')
  | _ => none) else none
theorem runF_len {nP nN : Nat} {m : S} {ds : List D} {r : Rv} (h : runF nP nN m ds = some r) : ds.length = nP := by
  unfold runF at h
  split at h
  · assumption
  · cases h
theorem runI_len {nP nN : Nat} {m : S} {o : OO} {ds : List D} {r : Rv × OO} (h : runI nP nN m o ds = some r) : ds.length + 1 = nP := by
  unfold runI at h
  split at h
  · assumption
  · cases h

section
variable {K : PySem.W.Frag} {F F' : Addr → Prop} {A A' : Nat → Option Addr} {sl sl' : List Sl} {σ : L2.St} {H H' : Hp}
theorem start_len (N : List Str) (vs : List V) : (L2.start N vs).length = vs.length + (N.length - vs.length) := by
  unfold L2.start; simp
theorem rel_start {N : List Str} {vs : List V} {ds : List D} (lv : Live F H) (p : RpAll K F H vs ds) : Rel K F (fun _ => none) (ds.map Sl.val ++ List.replicate (N.length - ds.length) .nil) (L2.start N vs) H where
  len := by rw [start_len, p.length]; simp
  slot := fun i s h => by
    by_cases hi : i < ds.length
    · rw [List.getElem?_append_left (by simpa using hi), List.getElem?_map] at h
      cases e : ds[i]? with
      | none => rw [e] at h; cases h
      | some d =>
        rw [e] at h; cases h
        obtain ⟨v, e1, q⟩ := p.getD e
        have hv : i < vs.length := (List.getElem?_eq_some_iff.mp e1).1
        refine ⟨v, ?_, q⟩
        unfold L2.start
        rw [List.getElem?_append_left (by simpa using hv), List.getElem?_map, e1]
        rfl
    · rw [List.getElem?_append_right (by simpa using hi), List.getElem?_replicate] at h
      split at h
      · cases h; trivial
      · cases h
  own := fun i a h => by cases h
  inj := fun i j a h => by cases h
  frz := lv
theorem rel_startI {N : List Str} {a : Addr} {o : OO} {vs : List V} {ds : List D} (lv : Live F H) (nf : ¬ F a) (ok : OOk K F H a o) (p : RpAll K F H vs ds) :
    Rel K F (fun i => if i = 0 then some a else none) (.own true false o :: (ds.map Sl.val ++ List.replicate (N.length - (ds.length + 1)) .nil)) (L2.start N (.ref a :: vs)) H where
  len := by rw [start_len, List.length_cons, List.length_cons, p.length]; simp; omega
  slot := fun i s h => by
    cases i with
    | zero =>
      cases h
      exact ⟨a, rfl, rfl, ok⟩
    | succ i =>
      have h' : (ds.map Sl.val ++ List.replicate (N.length - (ds.length + 1)) .nil)[i]? = some s := by simpa using h
      by_cases hi : i < ds.length
      · rw [List.getElem?_append_left (by simpa using hi), List.getElem?_map] at h'
        cases e : ds[i]? with
        | none => rw [e] at h'; cases h'
        | some d =>
          rw [e] at h'; cases h'
          obtain ⟨v, e1, q⟩ := p.getD e
          have hv : i < vs.length := (List.getElem?_eq_some_iff.mp e1).1
          refine ⟨v, ?_, q⟩
          unfold L2.start
          rw [List.getElem?_append_left (by simpa using hv), List.getElem?_map]
          simp [e1]
      · rw [List.getElem?_append_right (by simpa using hi), List.getElem?_replicate] at h'
        split at h'
        · cases h'; trivial
        · cases h'
  own := fun i b h => by
    split at h
    · cases h; exact ⟨nf, ok.ex⟩
    · cases h
  inj := fun i j b hi hj => by
    split at hi
    · split at hj
      · rename_i h1 h2; exact h1.trans h2.symm
      · cases hj
    · cases hi
  frz := lv
end

section
variable {P : Program} {w : World} {K : PySem.W.Frag} {mg : Str → Option Value} {base : Heap} {x qual : Str} {st : Stmt} {f : Addr} {fd : FuncData} {N ps : List Str} {k : Nat}
/-- where a def's body runs -/
abbrev bodyX (P : Program) (w : World) (K : PySem.W.Frag) (mg : Str → Option Value) (base : Heap) (N : List Str) (qual : Str) (st : Stmt) (f : Addr) (cdv : Value) (A : Around) (outer : List Env) (s : Shared) (H : Hp) : Cx :=
  (cxOf CX0 P w K mg base N qual (defScope st) f cdv A outer s H E0).nox
theorem fn_data {m : S} (Fn : Fun K x qual st f fd) (Sc : FnScope N ps (defScope st))
    (body : ∀ (cdv : Value) (A : Around) (outer : List Env) (s : Shared) (H : Hp), A.guards = some [] → Room k (A.deeper (envOfC qual (defScope st) s.heap.objs.size f cdv)) → BS (bodyX P w K mg base N qual st f cdv A outer s H) m (defBody st)) :
    FnG P w K mg base (k + 1) f fd ps (spG K ps.length (runF ps.length N.length m)) := by
  refine fnG_of Fn Sc (fun vs H Q E h => h.1) fun cdv A outer s H vs Q hg hr h => ?_
  obtain ⟨hl, F, ds, r, lv, p, e, q⟩ := h
  refine ⟨_, body cdv A outer s H hg hr, ?_⟩
  have el := runF_len e
  unfold runF at e
  rw [if_pos el] at e
  cases e1 : m (ds.map Sl.val ++ List.replicate (N.length - ds.length) .nil) with
  | none => rw [e1] at e; cases e
  | some z =>
    obtain ⟨fl, sl'⟩ := z
    rw [e1] at e
    refine ⟨F, fun _ => none, _, fl, sl', rel_start lv p, e1, fun F' A' H' x' lv' => ?_⟩
    have g : Grow F H F' H' := ⟨x'.mono, fun b o hb => x'.keep b o hb (fun i z => by cases z), fun b f => by
      rcases x'.fz b f with z | z | ⟨i, z⟩
      · exact .inl z
      · exact .inr ⟨z, lv' b f⟩
      · cases z⟩
    cases fl with
    | nx =>
      intro σ' r'
      cases e
      exact q .non F' H' g .non
    | bk => cases e
    | ct => cases e
    | rt y =>
      intro v σ' r' ok
      cases e
      refine q v F' H' g ?_
      cases r with
      | d d => exact ok
      | sl i => exact ok
      | fr o =>
        obtain ⟨a, rfl, q1, nf, z⟩ := ok
        refine ⟨a, rfl, q1, nf, ?_⟩
        rcases z with z | ⟨j, z, _⟩
        · exact z
        · cases z
theorem fn_lent {m : S} (Fn : Fun K x qual st f fd) (Sc : FnScope N ps (defScope st))
    (body : ∀ (cdv : Value) (A : Around) (outer : List Env) (s : Shared) (H : Hp), A.guards = some [] → Room k (A.deeper (envOfC qual (defScope st) s.heap.objs.size f cdv)) → BS (bodyX P w K mg base N qual st f cdv A outer s H) m (defBody st)) :
    FnG P w K mg base (k + 1) f fd ps (spI K ps.length (runI ps.length N.length m)) := by
  refine fnG_of Fn Sc (fun vs H Q E h => h.1) fun cdv A outer s H vs Q hg hr h => ?_
  obtain ⟨hl, F, a, ws, o, ds, r, o', rfl, lv, nf, ok, p, e, q⟩ := h
  refine ⟨_, body cdv A outer s H hg hr, ?_⟩
  have el := runI_len e
  unfold runI at e
  rw [if_pos el] at e
  cases e1 : m (.own true false o :: (ds.map Sl.val ++ List.replicate (N.length - (ds.length + 1)) .nil)) with
  | none => rw [e1] at e; cases e
  | some z =>
    obtain ⟨fl, sl'⟩ := z
    rw [e1] at e
    cases sl' with
    | nil => cases e
    | cons s0 sl' =>
      have es : ∃ o2, s0 = .own true false o2 ∧ (finish fl).map (fun r => (r, o2)) = some (r, o') := by
        cases s0 with
        | nil => cases e
        | val d => cases e
        | own io lk o2 => cases io <;> cases lk <;> first | exact ⟨o2, rfl, e⟩ | cases e
      obtain ⟨o2, rfl, e2⟩ := es
      obtain ⟨r2, e3, e4⟩ := Option.map_eq_some_iff.mp e2
      cases e4
      refine ⟨F, _, _, fl, _, rel_startI lv nf ok p, e1, fun F' A' H' x' lv' => ?_⟩
      have keep : ∀ b u, b ≠ a → H b = some u → H' b = some u := fun b u hb hu => x'.keep b u hu fun i z => by
        split at z
        · cases z; exact hb rfl
        · cases z
      have fz : ∀ σ', Rel K F' A' (.own true false o' :: sl') σ' H' → (∀ b, F' b → F b ∨ (H b = none ∧ ∃ u, H' b = some u)) ∧ OOk K F' H' a o' := fun σ' r' => by
        obtain ⟨q1, _⟩ := x'.io 0 true false o rfl (.inl rfl)
        obtain ⟨b, _, e5, ok'⟩ := r'.slot 0 _ rfl
        have e6 : A' 0 = some a := q1
        rw [e6] at e5; cases e5
        refine ⟨fun b f => ?_, ok'⟩
        rcases x'.fz b f with z | z | ⟨i, z⟩
        · exact .inl z
        · exact .inr ⟨z, lv' b f⟩
        · split at z
          · cases z; exact ((r'.own 0 a e6).1 f).elim
          · cases z
      cases fl with
      | nx =>
        intro σ' r'
        cases e3
        obtain ⟨f1, f2⟩ := fz σ' r'
        exact q .non F' H' x'.mono keep f1 f2 .non
      | bk => cases e3
      | ct => cases e3
      | rt y =>
        intro v σ' r' ok3
        cases e3
        obtain ⟨f1, f2⟩ := fz σ' r'
        refine q v F' H' x'.mono keep f1 f2 ?_
        cases r with
        | d d => exact ok3
        | sl i => exact ok3
        | fr o3 =>
          obtain ⟨b, rfl, q1, nf3, z⟩ := ok3
          refine ⟨b, rfl, q1, nf3, ?_⟩
          rcases z with z | ⟨j, z, z2⟩
          · exact z
          · by_cases hj : j = 0
            · subst hj; exact (z2 false o rfl).elim
            · simp [hj] at z
end
end RL
namespace RL
open PySem PySem.Spec PyProof.Rows L2

/-! ### calls on data -/
def callM (g : List D → Option Rv) (m : M (List D)) : M Rv := do
  let ds ← m
  opt (g ds)
/-- the parameters' values, picked out of what the call has written -/
def pick {α : Type} : List Nat → List α → List α
  | [], _ => []
  | i :: is, xs => match xs[i]? with
    | some x => x :: pick is xs
    | none => []
def callK (g : List D → Option Rv) (is : List Nat) (m n : M (List D)) : M Rv := do
  let ds ← m
  let es ← n
  opt (g (pick is (ds ++ es)))
theorem pick_rp {K : PySem.W.Frag} {F : Addr → Prop} {H : Hp} {vs : List V} {ds : List D} (p : RpAll K F H vs ds) : ∀ is : List Nat, RpAll K F H (pick is vs) (pick is ds)
  | [] => .nil
  | i :: is => by
    unfold pick
    cases e : ds[i]? with
    | none =>
      have : vs[i]? = none := by
        have h := List.getElem?_eq_none_iff.mp e
        exact List.getElem?_eq_none_iff.mpr (by rw [p.length]; exact h)
      rw [this]; exact .nil
    | some d =>
      obtain ⟨v, e1, q⟩ := p.getD e
      rw [e1]; exact .cons q (pick_rp p is)
theorem pick_vals {vs : List V} {us : List Value} (p : Vals vs us) : ∀ is : List Nat, Vals (pick is vs) (pick is us)
  | [] => .nil
  | i :: is => by
    unfold pick
    cases e : vs[i]? with
    | none => rw [p.none_of e]; exact .nil
    | some d =>
      obtain ⟨v, e1, q⟩ := p.get e
      rw [e1]; exact .cons q (pick_vals p is)
theorem kb_mk {K : PySem.W.Frag} {x qual : Str} {st : Stmt} {f : Addr} {fd : FuncData} {ps : List Str} (Fn : Fun K x qual st f fd) (n : Nat) (ks : List Str) (is : List Nat)
    (h : ∀ (kV doc pm : Value) (an : Option Addr) (cdv ct : Value) (us ws : List Value), us.length = n → ws.length = ks.length → bindArgs (PySem.W.fnOf x qual (defArgs st) (defBody st) (defScope st) .none kV doc pm an cdv ct) ⟨us, ks.zip ws⟩ = pure (ps.zip (pick is (us ++ ws)))) :
    KBn K fd ps n ks (fun us ws => pick is (us ++ ws)) (fun vs zs => pick is (vs ++ zs)) := by
  obtain ⟨oc, od, kV, doc, pm, an, cdv, ct, osl, rfl, lk, hcd⟩ := Fn.ex
  exact ⟨fun s us ws X l1 l2 => .of_eq (h kV doc pm an cdv ct us ws l1 l2), fun r1 r2 => pick_vals (r1.append r2) is⟩

section
variable {X : Cx} {k n nn : Nat} {f : Addr} {fd : FuncData} {ps ks : List Str} {x : Str} {p pos : Pos} {e : Expr} {es : List Expr} {kws : List Keyword} {g : List D → Option Rv}
theorem call_end {F F1 : Addr → Prop} {A A1 : Nat → Option Addr} {sl sl1 : List Sl} {σ : L2.St} {H H1 : Hp} {Q : VK} {r : Rv} {vs : List V} {ds : List D} (hn : ∀ ds r, g ds = some r → ds.length = n) (r1 : Rel X.K F1 A1 sl1 σ H1) (e1 : Ext F A sl H F1 A1 sl1 H1) (pr : RpAll X.K F1 H1 vs ds) (hg : g ds = some r)
    (q : ∀ v F' A' H', Rel X.K F' A' sl1 σ H' → Ext F A sl H F' A' sl1 H' → RvOk X.K F' A' H' σ v r → NewOf H v r → Q v H') : spG X.K n g vs H1 Q E0 := by
  refine ⟨by rw [pr.length]; exact hn _ _ hg, F1, ds, r, r1.frz, pr, hg, fun v F' H' gr ok => ?_⟩
  exact q v F' A1 H' (r1.grow gr) (e1.trans (gr.ext r1)) (ok.ok r1) (ok.new.ext e1)
theorem re_call {m : M (List D)} (Fn : FnG X.prog X.w X.K X.mg X.base k f fd ps (spG X.K n g)) (hn : ∀ ds r, g ds = some r → ds.length = n) (hgd : X.A.guards = some []) (hr : Room k X.A) (hg : Gl X x) (hm : X.mg x = some (.ref f)) (hk : PySem.W.keepIn X.K (.ref f) = true) (hb : Binds X.K fd ps [])
    (ha : AD X m (e :: es)) (hdb : (x == ("__debug__" : Str)) = false := by decide) (he : starEach (e :: es) X.env = (false, eval e X.env) :: starEach es X.env := by rfl) (hpl : (backTo pos (starEach es X.env)).any (·.1) = false := by rfl) :
    RE X (callM g m) (.Call (.Name x p) (e :: es) [] pos) := pe_weak (pe_callG Fn hgd hr hg hm hk hb ha hdb he hpl) fun σ H Q ⟨F, A, sl, r, sl', rel, hm, q⟩ => by
  obtain ⟨ds, sl1, h1, h2⟩ := bind_some hm
  obtain ⟨h3, rfl⟩ := opt_some h2
  exact ⟨F, A, sl, ds, _, rel, h1, fun vs F1 A1 H1 r1 e1 pr => call_end hn r1 e1 pr h3 q⟩
theorem re_call0 (Fn : FnG X.prog X.w X.K X.mg X.base k f fd [] (spG X.K 0 g)) (hgd : X.A.guards = some []) (hr : Room k X.A) (hg : Gl X x) (hm : X.mg x = some (.ref f)) (hk : PySem.W.keepIn X.K (.ref f) = true) (hb : Binds X.K fd [] [])
    (hdb : (x == ("__debug__" : Str)) = false := by decide) : RE X (callM g (pure [])) (.Call (.Name x p) [] [] pos) := pe_weak (pe_callG0 Fn hgd hr hg hm hk hb hdb) fun σ H Q ⟨F, A, sl, r, sl', rel, hm, q⟩ => by
  obtain ⟨ds, sl1, h1, h2⟩ := bind_some hm
  obtain ⟨rfl, rfl⟩ := pure_some h1
  obtain ⟨h3, rfl⟩ := opt_some h2
  refine ⟨rfl, F, [], r, rel.frz, .nil, h3, fun v F' H' gr ok => ?_⟩
  exact q v F' A H' (rel.grow gr) (gr.ext rel) (ok.ok rel) ok.new
abbrev KD (X : Cx) (m : M (List D)) (kws : List Keyword) : Prop := PK X kws (tAD X.K m)
theorem pk_weak {t t' : TA} (h : PK X kws t) (w : ∀ σ H Q, t' σ H Q → t σ H Q) : PK X kws t' := ⟨fun p pins s σ H Q I q => h.run p pins s σ H Q I (w σ H Q q)⟩
theorem kd_nil : KD X (pure []) [] := pk_weak pk_nil fun σ H Q ⟨F, A, sl, r, sl', rel, hm, q⟩ => by
  obtain ⟨rfl, rfl⟩ := pure_some hm
  exact q [] F A H rel (Ext.refl rel) .nil
theorem kd_cons {m : M D} {ms : M (List D)} {nm : Option Str} {kpos : Pos} (h : DE X m e) (hs : KD X ms kws) : KD X (consM m ms) (⟨nm, e, kpos⟩ :: kws) := pk_weak (pk_cons h hs) fun σ H Q ⟨F, A, sl, r, sl', rel, hm, q⟩ => by
  obtain ⟨x, sl1, h1, h2⟩ := bind_some hm
  obtain ⟨xs, sl2, h3, h4⟩ := bind_some h2
  obtain ⟨rfl, rfl⟩ := pure_some h4
  exact ⟨F, A, sl, x, _, rel, h1, fun v F1 A1 H1 r1 e1 p1 => ⟨F1, A1, sl1, xs, sl', r1, h3, fun vs F2 A2 H2 r2 e2 p2 => q (v :: vs) F2 A2 H2 r2 (e1.trans e2) (.cons (p1.stay (r1.stay e2)) p2)⟩⟩
theorem re_callK0 {mk : M (List D)} {is : List Nat} (Fn : FnG X.prog X.w X.K X.mg X.base k f fd ps (spG X.K n g)) (hn : ∀ ds r, g ds = some r → ds.length = n) (hgd : X.A.guards = some []) (hr : Room k X.A) (hg : Gl X x) (hm : X.mg x = some (.ref f)) (hk : PySem.W.keepIn X.K (.ref f) = true)
    (hb : KBn X.K fd ps 0 ks (fun us ws => pick is (us ++ ws)) (fun vs zs => pick is (vs ++ zs))) (hl : kws.length = ks.length) (hkw : KD X mk kws) (hml : ∀ sl ds sl', mk sl = some (ds, sl') → ds.length = ks.length)
    (hall : (backToKw pos (keywordEach kws X.env)).all (·.1.isSome) = true := by rfl) (hks : (backToKw pos (keywordEach kws X.env)).filterMap (·.1) = ks := by rfl)
    (hdb : (x == ("__debug__" : Str)) = false := by decide) (hpl : ((backTo pos (starEach [] X.env)).any (·.1) || (backToKw pos (keywordEach kws X.env)).any (·.1.isNone)) = false := by rfl) :
    RE X (callK g is (pure []) mk) (.Call (.Name x p) [] kws pos) := pe_weak (pe_callGK0 Fn hgd hr hg hm hk hb hkw hall hks hdb hpl) fun σ H Q ⟨F, A, sl, r, sl', rel, hm, q⟩ => by
  obtain ⟨ds, sl1, h1, h2⟩ := bind_some hm
  obtain ⟨rfl, rfl⟩ := pure_some h1
  obtain ⟨es, sl2, h3, h4⟩ := bind_some h2
  obtain ⟨h5, rfl⟩ := opt_some h4
  exact ⟨F, A, _, es, _, rel, h3, fun vs F1 A1 H1 r1 e1 pr => ⟨by rw [pr.length]; exact hml _ _ _ h3, call_end hn r1 e1 (pick_rp pr is) h5 q⟩⟩
theorem re_callK {m mk : M (List D)} {is : List Nat} (Fn : FnG X.prog X.w X.K X.mg X.base k f fd ps (spG X.K n g)) (hn : ∀ ds r, g ds = some r → ds.length = n) (hgd : X.A.guards = some []) (hr : Room k X.A) (hg : Gl X x) (hm : X.mg x = some (.ref f)) (hk : PySem.W.keepIn X.K (.ref f) = true)
    (hb : KBn X.K fd ps nn ks (fun us ws => pick is (us ++ ws)) (fun vs zs => pick is (vs ++ zs))) (ha : AD X m (e :: es)) (hkw : KD X mk kws) (hml : ∀ sl ds sl', mk sl = some (ds, sl') → ds.length = ks.length) (hal : ∀ sl ds sl', m sl = some (ds, sl') → ds.length = nn)
    (hall : (backToKw pos (keywordEach kws X.env)).all (·.1.isSome) = true := by rfl) (hks : (backToKw pos (keywordEach kws X.env)).filterMap (·.1) = ks := by rfl)
    (hdb : (x == ("__debug__" : Str)) = false := by decide) (he : starEach (e :: es) X.env = (false, eval e X.env) :: starEach es X.env := by rfl)
    (hpl : ((backTo pos (starEach (e :: es) X.env)).any (·.1) || (backToKw pos (keywordEach kws X.env)).any (·.1.isNone)) = false := by rfl) :
    RE X (callK g is m mk) (.Call (.Name x p) (e :: es) kws pos) := pe_weak (pe_callGK Fn hgd hr hg hm hk hb ha hkw hall hks hdb he hpl) fun σ H Q ⟨F, A, sl, r, sl', rel, hm, q⟩ => by
  obtain ⟨ds, sl1, h1, h2⟩ := bind_some hm
  obtain ⟨es, sl2, h3, h4⟩ := bind_some h2
  obtain ⟨h5, rfl⟩ := opt_some h4
  exact ⟨F, A, sl, ds, _, rel, h1, fun vs F1 A1 H1 r1 e1 pr => ⟨F1, A1, sl1, es, _, r1, h3, fun ws F2 A2 H2 r2 e2 pr2 => ⟨by rw [pr.length]; exact hal _ _ _ h1, by rw [pr2.length]; exact hml _ _ _ h3, call_end hn r2 (e1.trans e2) (pick_rp ((pr.stay (r1.stay e2)).append pr2) is) h5 q⟩⟩⟩
theorem len_nil {sl sl' : List Sl} {ds : List D} (h : (pure [] : M (List D)) sl = some (ds, sl')) : ds.length = 0 := by
  obtain ⟨rfl, rfl⟩ := pure_some h; rfl
theorem len_cons {a : M D} {ms : M (List D)} {n : Nat} (k : ∀ sl ds sl', ms sl = some (ds, sl') → ds.length = n) : ∀ sl ds sl', consM a ms sl = some (ds, sl') → ds.length = n + 1 := fun sl ds sl' h => by
  obtain ⟨x, sl1, h1, h2⟩ := bind_some h
  obtain ⟨xs, sl2, h3, h4⟩ := bind_some h2
  obtain ⟨rfl, rfl⟩ := pure_some h4
  rw [List.length_cons, k _ _ _ h3]
/-- f(e, .., *y) -/
theorem pe_callGS {sp : Sp} {t : TA} (Fn : FnG X.prog X.w X.K X.mg X.base k f fd ps sp) (hgd : X.A.guards = some []) (hr : Room k X.A) (hg : Gl X x) (hm : X.mg x = some (.ref f)) (hk : PySem.W.keepIn X.K (.ref f) = true) (hb : Binds X.K fd ps [])
    (ha : PA X (e :: es) t) (hdb : (x == ("__debug__" : Str)) = false := by decide) (he : starEach (e :: es) X.env = (false, eval e X.env) :: starEach es X.env := by rfl) (hst : (backTo pos (starEach es X.env)).any (·.1) = true := by rfl) :
    PE X (.Call (.Name x p) (e :: es) [] pos) (fun σ H Q => t σ H fun vs H1 => sp vs H1 Q E0) := by
  refine ⟨fun pins s σ H Q I h => wpAny_Call_Name_kw (ld_glob I hg hm ?_ hdb)⟩
  refine PySem.W.callWith_S2 (h₀ := X.base) I.ok.mod.kin hk (thn (ha.run pos pins s σ H _ I h) fun us s1 ⟨vs, H1, J, r, q⟩ => ⟨J.kIn, ?_⟩) he hst
  have l1 := (r.length.symm.trans (Fn.len _ _ _ _ q))
  have hb' := hb s1 us J.kIn (by rw [List.append_nil]; exact l1)
  rw [List.append_nil] at hb'
  exact wpAny_callG (runG Fn hgd hr J hb' r q)
theorem re_callS {m : M (List D)} (Fn : FnG X.prog X.w X.K X.mg X.base k f fd ps (spG X.K n g)) (hn : ∀ ds r, g ds = some r → ds.length = n) (hgd : X.A.guards = some []) (hr : Room k X.A) (hg : Gl X x) (hm : X.mg x = some (.ref f)) (hk : PySem.W.keepIn X.K (.ref f) = true) (hb : Binds X.K fd ps [])
    (ha : AD X m (e :: es)) (hdb : (x == ("__debug__" : Str)) = false := by decide) (he : starEach (e :: es) X.env = (false, eval e X.env) :: starEach es X.env := by rfl) (hst : (backTo pos (starEach es X.env)).any (·.1) = true := by rfl) :
    RE X (callM g m) (.Call (.Name x p) (e :: es) [] pos) := pe_weak (pe_callGS Fn hgd hr hg hm hk hb ha hdb he hst) fun σ H Q ⟨F, A, sl, r, sl', rel, hm, q⟩ => by
  obtain ⟨ds, sl1, h1, h2⟩ := bind_some hm
  obtain ⟨h3, rfl⟩ := opt_some h2
  exact ⟨F, A, sl, ds, _, rel, h1, fun vs F1 A1 H1 r1 e1 pr => call_end hn r1 e1 pr h3 q⟩

/-! ### a call that lends the i-th slot's object -/
def callL (i : Nat) (g : OO → List D → Option (Rv × OO)) (m : M (List D)) : M Rv := fun sl => match sl[i]? with
  | some (.own _ _ _) => (match m sl with
    | none => none
    | some (ds, sl1) => match sl1[i]? with
      | some (.own io false o) => (g o ds).map fun p => (p.1, sl1.set i (.own io false p.2))
      | _ => none)
  | _ => none
theorem re_lend {m : M (List D)} {i : Nat} {gL : OO → List D → Option (Rv × OO)} (Fn : FnG X.prog X.w X.K X.mg X.base k f fd ps (spI X.K n gL)) (hn : ∀ o ds r, gL o ds = some r → ds.length + 1 = n) (hgd : X.A.guards = some []) (hr : Room k X.A) (hg : Gl X x) (hm : X.mg x = some (.ref f)) (hk : PySem.W.keepIn X.K (.ref f) = true) (hb : Binds X.K fd ps [])
    (hv : PE X e (tVar i)) (ha : AD X m es) (hdb : (x == ("__debug__" : Str)) = false := by decide) (he : starEach (e :: es) X.env = (false, eval e X.env) :: starEach es X.env := by rfl) (hpl : (backTo pos (starEach es X.env)).any (·.1) = false := by rfl) :
    RE X (callL i gL m) (.Call (.Name x p) (e :: es) [] pos) := pe_weak (pe_callG Fn hgd hr hg hm hk hb (pa_cons hv ha he) hdb he hpl) fun σ H Q ⟨F, A, sl, r, sl', rel, hm, q⟩ => by
  unfold callL at hm
  have hσ : ∃ v0, σ[i]? = some (some v0) := by
    cases h0 : sl[i]? with
    | none => rw [h0] at hm; cases hm
    | some s0 =>
      rw [h0] at hm
      cases s0 with
      | nil => cases hm
      | val d => cases hm
      | own io lk o =>
        obtain ⟨a, e1, _⟩ := rel.slot i _ h0
        exact ⟨_, e1⟩
  have hm : (match m sl with
    | none => none
    | some (ds, sl1) => match sl1[i]? with
      | some (.own io false o) => (gL o ds).map fun p => (p.1, sl1.set i (.own io false p.2))
      | _ => none) = some (r, sl') := by
    cases h0 : sl[i]? with
    | none => rw [h0] at hm; cases hm
    | some s0 =>
      rw [h0] at hm
      cases s0 with
      | nil => cases hm
      | val d => cases hm
      | own io lk o => exact hm
  cases h1 : m sl with
  | none => rw [h1] at hm; cases hm
  | some z =>
    obtain ⟨ds, sl1⟩ := z
    rw [h1] at hm
    simp only at hm
    cases h2 : sl1[i]? with
    | none => rw [h2] at hm; cases hm
    | some s =>
      rw [h2] at hm
      cases s with
      | nil => cases hm
      | val d => cases hm
      | own io lk o =>
        cases lk with
        | true => cases hm
        | false =>
          obtain ⟨⟨r', o'⟩, h3, h4⟩ := Option.map_eq_some_iff.mp hm
          cases h4
          -- the object's address is told by the slot, ahead of the other arguments as behind them
          have key : ∀ v0, σ[i]? = some (some v0) → tAD X.K m σ H (fun ws H1 => spI X.K n gL (v0 :: ws) H1 Q E0) := fun v0 hσ => by
            refine ⟨F, A, sl, ds, sl1, rel, h1, fun ws F1 A1 H1 r1 e1 pr => ?_⟩
            obtain ⟨a, e2, e3, ok⟩ := r1.slot i _ h2
            rw [hσ] at e2
            cases e2
            obtain ⟨nf, _⟩ := r1.own i a e3
            refine ⟨by rw [List.length_cons, pr.length]; exact hn _ _ _ h3, F1, a, ws, o, ds, r', o', rfl, r1.frz, nf, ok, pr, h3, fun v F' H' mono keep fz ok' rok => ?_⟩
            have st : Stay F1 H1 F' H' := fun b u f hb => ⟨mono b f, keep b u (fun z => nf (z ▸ f)) hb⟩
            have hi : i < sl1.length := (List.getElem?_eq_some_iff.mp h2).1
            have r2 : Rel X.K F' A1 (sl1.set i (.own io false o')) σ H' := by
              refine ⟨by simpa using r1.len, fun j s hj => ?_, fun j b hj => ⟨fun f => ?_, ?_⟩, r1.inj, fun b f => ?_⟩
              · by_cases ej : j = i
                · subst ej
                  rw [List.getElem?_set_self hi] at hj
                  cases hj
                  exact ⟨a, hσ, e3, ok'⟩
                · rw [List.getElem?_set_ne (Ne.symm ej)] at hj
                  exact (r1.slot j s hj).stay st fun b hb => ⟨hb, fun u hu => keep b u (fun z => ej (r1.inj j i a (z ▸ hb) e3)) hu⟩
              · obtain ⟨n1, u, hu⟩ := r1.own j b hj
                rcases fz b f with z | ⟨z, _⟩
                · exact n1 z
                · rw [hu] at z; cases z
              · obtain ⟨n1, u, hu⟩ := r1.own j b hj
                by_cases eb : b = a
                · subst eb; exact ok'.ex
                · exact ⟨u, keep b u eb hu⟩
              · rcases fz b f with z | ⟨_, z⟩
                · obtain ⟨u, hu⟩ := r1.frz b z
                  exact ⟨u, (st b u z hu).2⟩
                · exact z
            have e4 : Ext F1 A1 sl1 H1 F' A1 (sl1.set i (.own io false o')) H' := by
              refine ⟨mono, fun b u hb hA => keep b u (fun z => hA i (z ▸ e3)) hb, fun b f => (fz b f).imp id fun z => .inl z.1, fun j b hb => .inl ⟨j, hb⟩, fun j io2 lk2 o2 hj hz => ?_, fun j b hb => (r2.own j b hb).2⟩
              by_cases ej : j = i
              · subst ej
                rw [h2] at hj; cases hj
                exact ⟨rfl, o', List.getElem?_set_self hi, fun z => by cases z⟩
              · exact ⟨rfl, o2, by rw [List.getElem?_set_ne (Ne.symm ej)]; exact hj, fun _ => rfl⟩
            refine q v F' A1 H' r2 (e1.trans e4) ?_ ?_
            · cases r' with
              | d d => exact rok
              | sl j => exact rok.elim
              | fr o3 =>
                obtain ⟨b, rfl, q1, n1, z⟩ := rok
                refine ⟨b, rfl, q1, n1, fun j w => ?_⟩
                obtain ⟨_, u, hu⟩ := r1.own j b w
                rw [z] at hu; cases hu
            · refine NewOf.ext e1 ?_
              cases r' with
              | d d => trivial
              | sl j => trivial
              | fr o3 =>
                obtain ⟨b, rfl, q1, n1, z⟩ := rok
                intro c ec; cases ec; exact z
          obtain ⟨v0, hσ⟩ := hσ
          exact ⟨v0, hσ, key v0 hσ⟩
end
end RL
namespace RL
open PySem PySem.Spec PyProof.Rows L2

/-! ### built-ins by name -/
def peekAll : List Rv → M (List D)
  | [] => pure []
  | r :: rs => do
    let d ← peek r
    let ds ← peekAll rs
    pure (d :: ds)
theorem peekAll_ok {K : PySem.W.Frag} {F : Addr → Prop} {A : Nat → Option Addr} {sl : List Sl} {σ : L2.St} {H : Hp} (r : Rel K F A sl σ H) : ∀ {vs : List V} {rs : List Rv} {ds : List D} {sl' : List Sl}, PySem.Paired (RvOk K F A H σ) vs rs → peekAll rs sl = some (ds, sl') → sl' = sl ∧ PySem.Paired (Pk K F H) vs ds
  | _, _, _, _, .nil, h => by
    obtain ⟨rfl, rfl⟩ := pure_some h
    exact ⟨rfl, .nil⟩
  | _, _, _, _, .cons p t, h => by
    obtain ⟨d, sl1, h1, h2⟩ := bind_some h
    obtain ⟨ds, sl2, h3, h4⟩ := bind_some h2
    obtain ⟨rfl, q⟩ := peek_ok r p h1
    obtain ⟨rfl, q2⟩ := peekAll_ok r t h3
    obtain ⟨rfl, rfl⟩ := pure_some h4
    exact ⟨rfl, .cons q q2⟩
def bltM (g : List D → Option Rv) (m : M (List Rv)) : M Rv := do
  let rs ← m
  let ds ← peekAll rs
  opt (g ds)
section
variable {X : Cx} {e : Expr} {es : List Expr} {x : Str} {id T : String} {p pos : Pos} {g : List D → Option Rv}
theorem blt_end {m : M (List Rv)} {σ : L2.St} {H : Hp} {Q : VK} (h : tR X.K (bltM g m) σ H Q) : tA X.K m σ H (fun vs H1 => rnD X.K g vs H1 Q) := by
  obtain ⟨F, A, sl, r, sl', rel, hm, q⟩ := h
  obtain ⟨rs, sl1, h1, h2⟩ := bind_some hm
  obtain ⟨ds, sl2, h3, h4⟩ := bind_some h2
  obtain ⟨h5, rfl⟩ := opt_some h4
  refine ⟨F, A, sl, rs, sl1, rel, h1, fun vs F1 A1 H1 r1 e1 p1 _ => ?_⟩
  obtain ⟨rfl, pk⟩ := peekAll_ok r1 p1 h3
  exact ⟨F1, ds, r, r1.frz, pk, h5, fun w F' H' gr ok => q w F' A1 H' (r1.grow gr) (e1.trans (gr.ext r1)) (ok.ok r1) (ok.new.ext e1)⟩
theorem re_blt {m : M (List Rv)} (hc : CallR X (.builtin id) (rnD X.K g)) (hg : Gl X x) (hm : X.mg x = none) (hv : bootBuiltins x = some (.builtin id)) (ha : AR X m (e :: es)) (hn : x ≠ "__name__" := by decide) (hdb : (x == ("__debug__" : Str)) = false := by decide)
    (he : starEach (e :: es) X.env = (false, eval e X.env) :: starEach es X.env := by rfl) (hpl : (backTo pos (starEach es X.env)).any (·.1) = false := by rfl) : RE X (bltM g m) (.Call (.Name x p) (e :: es) [] pos) :=
  pe_weak (pe_callB hc hg hm hv ha hn hdb he hpl) fun σ H Q h => blt_end h
theorem re_bty {m : M (List Rv)} (hc : CallR X (.type T) (rnD X.K g)) (hg : Gl X x) (hm : X.mg x = none) (hv : bootBuiltins x = some (.type T)) (ha : AR X m (e :: es)) (hn : x ≠ "__name__" := by decide) (hdb : (x == ("__debug__" : Str)) = false := by decide)
    (he : starEach (e :: es) X.env = (false, eval e X.env) :: starEach es X.env := by rfl) (hpl : (backTo pos (starEach es X.env)).any (·.1) = false := by rfl) : RE X (bltM g m) (.Call (.Name x p) (e :: es) [] pos) :=
  pe_weak (pe_callTy hc hg hm hv ha hn hdb he hpl) fun σ H Q h => blt_end h
theorem callR_weak {f : Value} {r t : List V → Hp → VK → Prop} (h : CallR X f r) (w : ∀ xs H Q, t xs H Q → r xs H Q) : CallR X f t := fun pins s σ H xs us Q I rv q => h pins s σ H xs us Q I rv (w xs H Q q)
theorem callR_or {f : Value} {r r' t : List V → Hp → VK → Prop} (h : CallR X f r) (h' : CallR X f r') (w : ∀ xs H Q, t xs H Q → r xs H Q ∨ r' xs H Q) : CallR X f t := fun pins s σ H xs us Q I rv q => by
  rcases w xs H Q q with z | z
  · exact h pins s σ H xs us Q I rv z
  · exact h' pins s σ H xs us Q I rv z

/-! ### what they tell of data -/
def lenF : List D → Option Rv
  | [.list ds] => some (.d (.int (ds.length : Nat)))
  | [.tuple ds] => some (.d (.int (ds.length : Nat)))
  | [.dict [(.none, .list ds)]] => some (.d (.int (ds.length : Nat)))
  | [.str x] => if x.length ≤ sizeLine then some (.d (.int (x.length : Nat))) else none
  | _ => none
theorem cr_len : CallR X (.builtin "len") (rnD X.K lenF) := callR_or call_len_seq call_len_str fun xs H Q ⟨F, ds, rr, lv, pk, e, k⟩ => by
  unfold lenF at e
  split at e
  · cases e
    cases pk with
    | cons p t =>
      cases t
      obtain ⟨a, vs, rfl, ha, ra⟩ := p.list
      refine .inl ⟨a, vs, rfl, .inl (.inl (.inl ha)), ?_⟩
      rw [ra.length]; exact k _ F H Grow.refl (.int _)
  · cases e
    cases pk with
    | cons p t =>
      cases t
      obtain ⟨a, vs, rfl, ha, ra⟩ := p.tuple
      refine .inl ⟨a, vs, rfl, .inr ha, ?_⟩
      rw [ra.length]; exact k _ F H Grow.refl (.int _)
  · cases e
    cases pk with
    | cons p t =>
      cases t
      obtain ⟨a, vs, rfl, ha, ra⟩ := p.ro
      refine .inl ⟨a, vs, rfl, .inl ha.seq, ?_⟩
      rw [ra.length]; exact k _ F H Grow.refl (.int _)
  · split at e
    · rename_i hl
      cases e
      cases pk with
      | cons p t =>
        cases t
        exact .inr ⟨_, by rw [p.str], hl, k _ F H Grow.refl (.int _)⟩
    · cases e
  · cases e
def absF : List D → Option Rv
  | [.int i] => some (.d (.int (if i < 0 then -i else i)))
  | _ => none
theorem cr_abs : CallR X (.builtin "abs") (rnD X.K absF) := callR_weak call_abs fun xs H Q ⟨F, ds, rr, lv, pk, e, k⟩ => by
  unfold absF at e
  split at e
  · cases e
    cases pk with
    | cons p t => cases t; exact ⟨_, by rw [p.int], k _ F H Grow.refl (.int _)⟩
  · cases e
def max2F : List D → Option Rv
  | [.int i, .int j] => some (.d (.int (if j > i then j else i)))
  | _ => none
def min2F : List D → Option Rv
  | [.int i, .int j] => some (.d (.int (if j < i then j else i)))
  | _ => none
theorem cr_max2 (hc : X.calm = true) : CallR X (.builtin "max") (rnD X.K max2F) := callR_weak (call_max2 hc) fun xs H Q ⟨F, ds, rr, lv, pk, e, k⟩ => by
  unfold max2F at e
  split at e
  · cases e
    cases pk with
    | cons p t => cases t with
      | cons p2 t => cases t; exact ⟨_, _, by rw [p.int, p2.int], k _ F H Grow.refl (.int _)⟩
  · cases e
theorem cr_min2 (hc : X.calm = true) : CallR X (.builtin "min") (rnD X.K min2F) := callR_weak (call_min2 hc) fun xs H Q ⟨F, ds, rr, lv, pk, e, k⟩ => by
  unfold min2F at e
  split at e
  · cases e
    cases pk with
    | cons p t => cases t with
      | cons p2 t => cases t; exact ⟨_, _, by rw [p.int, p2.int], k _ F H Grow.refl (.int _)⟩
  · cases e
def intF : List D → Option Rv
  | [.int i] => some (.d (.int i))
  | [.bool b] => some (.d (.int (if b then 1 else 0)))
  | _ => none
theorem cr_int : CallR X (.type "int") (rnD X.K intF) := callR_weak call_int1 fun xs H Q ⟨F, ds, rr, lv, pk, e, k⟩ => by
  unfold intF at e
  split at e
  · cases e
    cases pk with
    | cons p t => cases t; exact .inl ⟨_, by rw [p.int], k _ F H Grow.refl (.int _)⟩
  · cases e
    cases pk with
    | cons p t => cases t; exact .inr ⟨_, by rw [p.bl], k _ F H Grow.refl (.int _)⟩
  · cases e
/-- the bools of a list -/
def blsOf : List D → Option (List Bool)
  | [] => some []
  | .bool b :: r => (blsOf r).map (b :: ·)
  | _ :: _ => none
theorem blsOf_rp {K : PySem.W.Frag} {F : Addr → Prop} {H : Hp} : ∀ {vs : List V} {ds : List D} {ns : List Bool}, RpAll K F H vs ds → blsOf ds = some ns → vs = ns.map V.bl
  | _, _, ns, .nil, h => by cases h; rfl
  | _, _, ns, .cons (d := d) r t, h => by
    cases d <;> simp [blsOf] at h
    obtain ⟨ms, h1, rfl⟩ := h
    rw [r.eqBl, blsOf_rp t h1]; rfl
def anyF : List D → Option Rv
  | [.list ds] => (blsOf ds).map fun bs => .d (.bool (bs.any fun b => b))
  | _ => none
def allF : List D → Option Rv
  | [.list ds] => (blsOf ds).map fun bs => .d (.bool (bs.all fun b => b))
  | _ => none
theorem cr_any (hc : X.calm = true) : CallR X (.builtin "any") (rnD X.K anyF) := callR_weak (L2.cr_any hc) fun xs H Q ⟨F, ds, rr, lv, pk, e, k⟩ => by
  unfold anyF at e
  split at e
  · obtain ⟨bs, h1, rfl⟩ := Option.map_eq_some_iff.mp e
    cases pk with
    | cons p t =>
      cases t
      obtain ⟨a, vs, rfl, ha, ra⟩ := p.list
      obtain rfl := blsOf_rp ra h1
      exact ⟨a, bs, rfl, .inl (.inl ha), k _ F H Grow.refl (.bl _)⟩
  · cases e
theorem cr_all (hc : X.calm = true) : CallR X (.builtin "all") (rnD X.K allF) := callR_weak (L2.cr_all hc) fun xs H Q ⟨F, ds, rr, lv, pk, e, k⟩ => by
  unfold allF at e
  split at e
  · obtain ⟨bs, h1, rfl⟩ := Option.map_eq_some_iff.mp e
    cases pk with
    | cons p t =>
      cases t
      obtain ⟨a, vs, rfl, ha, ra⟩ := p.list
      obtain rfl := blsOf_rp ra h1
      exact ⟨a, bs, rfl, .inl (.inl ha), k _ F H Grow.refl (.bl _)⟩
  · cases e
def sumF : List D → Option Rv
  | [.list ds] => (intsOf ds).map fun ns => .d (.int ns.sum)
  | _ => none
theorem cr_sum (hc : X.calm = true) : CallR X (.builtin "sum") (rnD X.K sumF) := callR_weak (L2.cr_sum hc) fun xs H Q ⟨F, ds, rr, lv, pk, e, k⟩ => by
  unfold sumF at e
  split at e
  · obtain ⟨ns, h1, rfl⟩ := Option.map_eq_some_iff.mp e
    cases pk with
    | cons p t =>
      cases t
      obtain ⟨a, vs, rfl, ha, ra⟩ := p.list
      obtain rfl := intsOf_rp ra h1
      exact ⟨a, ns, rfl, .inl (.inl ha), k _ F H Grow.refl (.int _)⟩
  · cases e
def listF : List D → Option Rv
  | [.list ds] => some (.fr (.lst ds))
  | [.tuple ds] => some (.fr (.lst ds))
  | [.dict [(.none, .list ds)]] => some (.fr (.lst ds))
  | _ => none
theorem cr_list : CallR X (.type "list") (rnD X.K listF) := callR_weak call_list_of fun xs H Q ⟨F, ds, rr, lv, pk, e, k⟩ => by
  unfold listF at e
  split at e
  · cases e
    cases pk with
    | cons p t =>
      cases t
      obtain ⟨a, vs, rfl, ha, ra⟩ := p.list
      refine ⟨a, vs, rfl, .inl (.inl (.inl ha)), fun l n => ?_⟩
      obtain ⟨gr, rg⟩ := grow_lst n (lv.nf n) ra
      exact k _ _ _ gr rg
  · cases e
    cases pk with
    | cons p t =>
      cases t
      obtain ⟨a, vs, rfl, ha, ra⟩ := p.tuple
      refine ⟨a, vs, rfl, .inr ha, fun l n => ?_⟩
      obtain ⟨gr, rg⟩ := grow_lst n (lv.nf n) ra
      exact k _ _ _ gr rg
  · cases e
    cases pk with
    | cons p t =>
      cases t
      obtain ⟨a, vs, rfl, ha, ra⟩ := p.ro
      refine ⟨a, vs, rfl, .inl ha.seq, fun l n => ?_⟩
      obtain ⟨gr, rg⟩ := grow_lst n (lv.nf n) ra
      exact k _ _ _ gr rg
  · cases e
def tupleF : List D → Option Rv
  | [.list ds] => some (.d (.tuple ds))
  | [.tuple ds] => some (.d (.tuple ds))
  | [.dict [(.none, .list ds)]] => some (.d (.tuple ds))
  | _ => none
theorem cr_tuple : CallR X (.type "tuple") (rnD X.K tupleF) := callR_weak call_tuple_of fun xs H Q ⟨F, ds, rr, lv, pk, e, k⟩ => by
  unfold tupleF at e
  split at e
  · cases e
    cases pk with
    | cons p t =>
      cases t
      obtain ⟨a, vs, rfl, ha, ra⟩ := p.list
      refine ⟨a, vs, rfl, .inl ⟨.inl (.inl ha), fun l n => ?_⟩⟩
      obtain ⟨gr, rg⟩ := grow_tup (F := F) n ra
      exact k _ _ _ gr rg
  · cases e
    cases pk with
    | cons p t =>
      cases t
      have rp := p.rpTup
      obtain ⟨a, vs, rfl, ha, ra⟩ := rp.tuple
      exact ⟨a, vs, rfl, .inr ⟨ha, k _ F H Grow.refl rp⟩⟩
  · cases e
    cases pk with
    | cons p t =>
      cases t
      obtain ⟨a, vs, rfl, ha, ra⟩ := p.ro
      refine ⟨a, vs, rfl, .inl ⟨ha.seq, fun l n => ?_⟩⟩
      obtain ⟨gr, rg⟩ := grow_tup (F := F) n ra
      exact k _ _ _ gr rg
  · cases e

/-! ### sorted: ints -/
def isrt (i : Int) : List Int → List Int
  | [] => [i]
  | j :: r => if i ≤ j then i :: j :: r else j :: isrt i r
def sortI : List Int → List Int
  | [] => []
  | i :: r => isrt i (sortI r)
theorem isrt_perm (i : Int) : ∀ l : List Int, (isrt i l).Perm (i :: l)
  | [] => .refl _
  | j :: r => by
    unfold isrt
    split
    · exact .refl _
    · exact ((isrt_perm i r).cons j).trans (.swap i j r)
theorem sortI_perm : ∀ l : List Int, (sortI l).Perm l
  | [] => .refl _
  | i :: r => (isrt_perm i (sortI r)).trans ((sortI_perm r).cons i)
theorem isrt_sorted (i : Int) : ∀ {l : List Int}, l.Pairwise (· ≤ ·) → (isrt i l).Pairwise (· ≤ ·)
  | [], _ => by simp [isrt]
  | j :: r, h => by
    unfold isrt
    rw [List.pairwise_cons] at h
    split
    · rename_i hij
      refine List.pairwise_cons.mpr ⟨fun x hx => ?_, List.pairwise_cons.mpr h⟩
      rcases List.mem_cons.mp hx with rfl | hx
      · exact hij
      · exact Int.le_trans hij (h.1 x hx)
    · rename_i hij
      refine List.pairwise_cons.mpr ⟨fun x hx => ?_, isrt_sorted i h.2⟩
      rcases List.mem_cons.mp ((isrt_perm i r).mem_iff.mp hx) with rfl | hx
      · omega
      · exact h.1 x hx
theorem sortI_sorted : ∀ l : List Int, (sortI l).Pairwise (· ≤ ·)
  | [] => .nil
  | i :: r => isrt_sorted i (sortI_sorted r)
theorem sorted_one : ∀ {a b : List Int}, a.Perm b → a.Pairwise (· ≤ ·) → b.Pairwise (· ≤ ·) → a = b
  | [], b, p, _, _ => (List.perm_nil.mp p.symm).symm
  | x :: a, [], p, _, _ => (List.perm_nil.mp p)
  | x :: a, y :: b, p, ha, hb => by
    rw [List.pairwise_cons] at ha hb
    have e : x = y := by
      have h1 : x ∈ y :: b := p.mem_iff.mp List.mem_cons_self
      have h2 : y ∈ x :: a := p.mem_iff.mpr List.mem_cons_self
      rcases List.mem_cons.mp h1 with q | q
      · exact q
      · rcases List.mem_cons.mp h2 with z | z
        · exact z.symm
        · have := ha.1 y z
          have := hb.1 x q
          omega
    subst e
    rw [sorted_one (List.Perm.cons_inv p) ha.2 hb.2]
theorem rp_ints {K : PySem.W.Frag} {F : Addr → Prop} {H : Hp} : ∀ ns : List Int, RpAll K F H (ns.map V.int) (ns.map PyData.int)
  | [] => .nil
  | n :: r => .cons (.int n) (rp_ints r)
def sortF : List D → Option Rv
  | [.list ds] => (intsOf ds).map fun ns => .fr (.lst ((sortI ns).map PyData.int))
  | _ => none
theorem cr_sortL : CallR X (.builtin "sorted") (rnD X.K sortF) := callR_weak cr_sortedI fun xs H Q ⟨F, ds, rr, lv, pk, e, k⟩ => by
  unfold sortF at e
  split at e
  · obtain ⟨ns, h1, rfl⟩ := Option.map_eq_some_iff.mp e
    cases pk with
    | cons p t =>
      cases t
      obtain ⟨a, vs, rfl, ha, ra⟩ := p.list
      obtain rfl := intsOf_rp ra h1
      refine ⟨a, ns, rfl, .inl (.inl ha), fun ns' p pm st n => ?_⟩
      have : ns' = sortI ns := sorted_one (pm.trans (sortI_perm ns).symm) st (sortI_sorted ns)
      subst this
      obtain ⟨gr, rg⟩ := grow_lst n (lv.nf n) (rp_ints (sortI ns))
      exact k _ _ _ gr rg
  · cases e
end
end RL
namespace RL
open PySem PySem.Spec PyProof.Rows L2

/-! ### comprehensions: the names of their own -/
theorem wipe_get (σ : L2.St) (j : Nat) : ∀ vs : List Nat, (L2.wipe σ vs)[j]? = if j ∈ vs then σ[j]?.map fun _ => none else σ[j]?
  | [] => by simp [L2.wipe]
  | v :: vs => by
    unfold L2.wipe
    have ih := wipe_get σ j vs
    by_cases e : v = j
    · subst e
      rw [List.getElem?_set]
      simp only [if_true, L2.wipe_length, List.mem_cons, true_or]
      by_cases h : v < σ.length
      · simp [h]
      · simp [h]
    · rw [List.getElem?_set_ne e, ih]
      have : j ≠ v := fun z => e z.symm
      simp [List.mem_cons, this]
def Same (vs : List Nat) (σ σ' : L2.St) : Prop := σ'.length = σ.length ∧ ∀ j, j ∉ vs → σ'[j]? = σ[j]?
theorem Same.refl {vs : List Nat} {σ : L2.St} : Same vs σ σ := ⟨rfl, fun _ _ => rfl⟩
theorem Same.trans {vs : List Nat} {σ σ1 σ2 : L2.St} (h : Same vs σ σ1) (k : Same vs σ1 σ2) : Same vs σ σ2 := ⟨k.1.trans h.1, fun j hj => (k.2 j hj).trans (h.2 j hj)⟩
theorem Same.wipe {vs : List Nat} {σ σ' : L2.St} (h : Same vs σ σ') : L2.wipe σ' vs = L2.wipe σ vs := by
  refine List.ext_getElem? fun j => ?_
  rw [wipe_get, wipe_get]
  by_cases hj : j ∈ vs
  · rw [if_pos hj, if_pos hj]
    by_cases hl : j < σ.length
    · rw [List.getElem?_eq_getElem hl, List.getElem?_eq_getElem (by rw [h.1]; exact hl)]; rfl
    · rw [List.getElem?_eq_none (by rw [h.1]; omega), List.getElem?_eq_none (by omega)]
  · rw [if_neg hj, if_neg hj, h.2 j hj]
theorem wipe_sub {vs ws : List Nat} {σ : L2.St} (h : ∀ i ∈ ws, i ∈ vs) : L2.wipe (L2.wipe σ ws) vs = L2.wipe σ vs := by
  refine List.ext_getElem? fun j => ?_
  rw [wipe_get, wipe_get, wipe_get]
  by_cases hj : j ∈ vs
  · rw [if_pos hj, if_pos hj]
    split
    · cases σ[j]? <;> rfl
    · rfl
  · rw [if_neg hj, if_neg hj, if_neg (fun z => hj (h j z))]
def wipeS : List Nat → List Sl → Option (List Sl)
  | [], sl => some sl
  | v :: vs, sl => match wipeS vs sl with
    | some s => if okSet s v then some (s.set v .nil) else none
    | none => none
def backOf : Option Sl → Sl
  | some (.val d) => .val d
  | _ => .nil
def backS (sl0 : List Sl) : List Nat → List Sl → List Sl
  | [], sl => sl
  | v :: vs, sl => (backS sl0 vs sl).set v (backOf sl0[v]?)

section
variable {K : PySem.W.Frag} {F F' F0 F1 F2 : Addr → Prop} {A A' A0 A1 A2 : Nat → Option Addr} {sl sl' sl0 sl1 sl2 : List Sl} {σ σ' : L2.St} {H H' H0 H1 H2 : Hp} {lk : Option Nat} {p : Addr}
theorem wipe_ok (r : Rel K F A sl σ H) : ∀ {vs : List Nat} {sl' : List Sl}, wipeS vs sl = some sl' → Rel K F A sl' (L2.wipe σ vs) H ∧ Ext F A sl H F A sl' H ∧ ∀ v ∈ vs, ∀ io lk o, sl[v]? = some (.own io lk o) → io = false ∧ lk = false
  | [], _, h => by
    cases h
    exact ⟨r, Ext.refl r, fun v hv => by cases hv⟩
  | v :: vs, sl', h => by
    unfold wipeS at h
    cases e : wipeS vs sl with
    | none => rw [e] at h; cases h
    | some s =>
      rw [e] at h
      simp only at h
      split at h
      · rename_i hs
        cases h
        obtain ⟨r1, x1, n1⟩ := wipe_ok r e
        have hi : v < s.length := by
          unfold okSet at hs
          cases q : s[v]? with
          | none => rw [q] at hs; cases hs
          | some z => exact (List.getElem?_eq_some_iff.mp q).1
        have ho : ∀ io lk o, s[v]? = some (.own io lk o) → io = false ∧ lk = false := fun io lk o q => by
          unfold okSet at hs
          rw [q] at hs
          simpa using hs
        refine ⟨⟨by simpa [L2.wipe] using r1.len, fun j z hj => ?_, r1.own, r1.inj, r1.frz⟩, ⟨fun _ f => f, fun b o q _ => q, fun b f => .inl f, fun j b hb => .inl ⟨j, hb⟩, fun j io lk o hj hz => ?_, fun j b hb => (r.own j b hb).2⟩, fun w hw io lk o hq => ?_⟩
        · by_cases ej : j = v
          · subst ej
            rw [List.getElem?_set_self hi] at hj
            cases hj; trivial
          · rw [List.getElem?_set_ne (Ne.symm ej)] at hj
            unfold L2.wipe
            rw [List.getElem?_set_ne (Ne.symm ej)]
            exact r1.slot j z hj
        · obtain ⟨_, o', q2, q3⟩ := x1.io j io lk o hj hz
          have ej : j ≠ v := by
            rintro rfl
            obtain ⟨rfl, rfl⟩ := ho _ _ _ q2
            rcases hz with z | z <;> cases z
          exact ⟨rfl, o', by rw [List.getElem?_set_ne (Ne.symm ej)]; exact q2, q3⟩
        · rcases List.mem_cons.mp hw with rfl | hw
          · cases io with
            | true =>
              obtain ⟨_, o', q2, _⟩ := x1.io w true lk o hq (.inl rfl)
              exact ho _ _ _ q2
            | false =>
              cases lk with
              | false => exact ⟨rfl, rfl⟩
              | true =>
                obtain ⟨_, o', q2, _⟩ := x1.io w false true o hq (.inr rfl)
                exact ho _ _ _ q2
          · exact n1 w hw io lk o hq
      · cases h
theorem back_len (sl0 sl : List Sl) : ∀ vs : List Nat, (backS sl0 vs sl).length = sl.length
  | [] => rfl
  | v :: vs => by unfold backS; rw [List.length_set, back_len sl0 sl vs]
theorem back_get (sl0 sl : List Sl) (j : Nat) : ∀ vs : List Nat, (backS sl0 vs sl)[j]? = if j ∈ vs then sl[j]?.map (fun _ => backOf sl0[j]?) else sl[j]?
  | [] => by simp [backS]
  | v :: vs => by
    unfold backS
    have ih := back_get sl0 sl j vs
    by_cases e : v = j
    · subst e
      rw [List.getElem?_set]
      simp only [if_true, back_len, List.mem_cons, true_or]
      by_cases h : v < sl.length
      · simp [h]
      · simp [h]
    · rw [List.getElem?_set_ne e, ih]
      have : j ≠ v := fun z => e z.symm
      simp [List.mem_cons, this]
theorem back_ok {vs : List Nat} (r : Rel K F A sl σ H) (n : ∀ v ∈ vs, ∀ io lk o, sl[v]? = some (.own io lk o) → io = false ∧ lk = false) (r1 : Rel K F1 A1 sl1 (L2.wipe σ vs) H1) (x : Ext F A sl H F1 A1 sl1 H1) :
    Rel K F1 A1 (backS sl vs sl1) σ H1 ∧ Ext F A sl H F1 A1 (backS sl vs sl1) H1 := by
  refine ⟨⟨by rw [back_len, r1.len, L2.wipe_length], fun j z hj => ?_, r1.own, r1.inj, r1.frz⟩, ⟨x.mono, x.keep, x.fz, x.ow, fun j io lk o hj hz => ?_, x.there⟩⟩
  · rw [back_get] at hj
    by_cases e : j ∈ vs
    · rw [if_pos e] at hj
      cases q : sl1[j]? with
      | none => rw [q] at hj; cases hj
      | some w =>
        rw [q] at hj
        cases hj
        cases q2 : sl[j]? with
        | none => trivial
        | some u =>
          cases u with
          | nil => trivial
          | val d =>
            obtain ⟨v, e1, p1⟩ := r.slot j _ q2
            exact ⟨v, e1, p1.stay (r.stay x)⟩
          | own _ _ _ => trivial
    · rw [if_neg e] at hj
      have := r1.slot j z hj
      rw [wipe_get, if_neg e] at this
      exact this
  · obtain ⟨q1, o', q2, q3⟩ := x.io j io lk o hj hz
    have e : j ∉ vs := fun e => by
      obtain ⟨rfl, rfl⟩ := n j e io lk o hj
      rcases hz with z | z <;> cases z
    exact ⟨q1, o', by rw [back_get, if_neg e]; exact q2, q3⟩
/-- an address that no name owns -/
structure Alone (F : Addr → Prop) (A : Nat → Option Addr) (p : Addr) : Prop where
  nf : ¬ F p
  na : ∀ j, A j ≠ some p
theorem Alone.ext {u : HO} (h : Alone F A p) (e : H p = some u) (x : Ext F A sl H F1 A1 sl1 H1) : Alone F1 A1 p ∧ H1 p = some u := by
  refine ⟨⟨fun f => ?_, fun j z => ?_⟩, x.keep p u e h.na⟩
  · rcases x.fz p f with q | q | ⟨i, q⟩
    · exact h.nf q
    · rw [e] at q; cases q
    · exact h.na i q
  · rcases x.ow j p z with ⟨i, q⟩ | q
    · exact h.na i q
    · rw [e] at q; cases q
theorem stay_upd {u : HO} (h : ¬ F p) : Stay F H F (upd H p u) := fun b o f e => ⟨f, by
  rw [upd_ne (fun z => h (by rw [← z]; exact f))]; exact e⟩
theorem Rel.put {u : HO} (r : Rel K F A sl σ H) (h : Alone F A p) : Rel K F A sl σ (upd H p u) where
  len := r.len
  slot := fun j s hj => (r.slot j s hj).stay (stay_upd h.nf) fun b hb => ⟨hb, fun w z => by
    rw [upd_ne (fun y => h.na j (by rw [← y]; exact hb))]; exact z⟩
  own := fun j b hb => ⟨(r.own j b hb).1, by
    by_cases e : b = p
    · subst e; exact ⟨u, upd_same⟩
    · rw [upd_ne e]; exact (r.own j b hb).2⟩
  inj := r.inj
  frz := fun b f => by
    obtain ⟨w, e⟩ := r.frz b f
    exact ⟨w, (stay_upd h.nf b w f e).2⟩
theorem Ext.put {u : HO} (x : Ext F0 A0 sl0 H0 F A sl H) (n : H0 p = none) : Ext F0 A0 sl0 H0 F A sl (upd H p u) where
  mono := x.mono
  keep := fun b o e k => by
    rw [upd_ne (fun z => by rw [z, n] at e; cases e)]
    exact x.keep b o e k
  fz := x.fz
  ow := x.ow
  io := x.io
  there := fun i b hb => by
    obtain ⟨o, e⟩ := x.there i b hb
    by_cases q : b = p
    · subst q; exact ⟨u, upd_same⟩
    · exact ⟨o, by rw [upd_ne q]; exact e⟩
end

/-- a target within a comprehension -/
def tGW (K : PySem.W.Frag) (vs : List Nat) (g : D → List Sl → Option (List Sl)) : TG := fun v σ H Q => ∃ F A sl d sl', Rel K F A sl σ H ∧ Rp K F H v d ∧ g d sl = some sl' ∧
  ∀ σ' F' A' H', Same vs σ σ' → Rel K F' A' sl' σ' H' → Ext F A sl H F' A' sl' H' → Q σ' H'
def tGsW (K : PySem.W.Frag) (vs : List Nat) (g : List D → List Sl → Option (List Sl)) : TGs := fun us σ H Q => ∃ F A sl ds sl', Rel K F A sl σ H ∧ RpAll K F H us ds ∧ g ds sl = some sl' ∧
  ∀ σ' F' A' H', Same vs σ σ' → Rel K F' A' sl' σ' H' → Ext F A sl H F' A' sl' H' → Q σ' H'
abbrev GW (X : Cx) (vs : List Nat) (g : D → List Sl → Option (List Sl)) (tg : Expr) : Prop := PG X tg (tGW X.K vs g)
abbrev GsW (X : Cx) (vs : List Nat) (g : List D → List Sl → Option (List Sl)) (tg : List Expr) : Prop := PGs X tg (tGsW X.K vs g)
section
variable {X : Cx} {vs : List Nat} {pos : Pos}
theorem gw_name {i : Nat} {tg : Expr} (h : PG X tg (gName i)) (hi : i ∈ vs) : GW X vs (gv i) tg := pg_weak h fun v σ H Q ⟨F, A, sl, d, sl', r, p, hm, q⟩ => by
  obtain ⟨r1, e1⟩ := store_val r hm p
  exact q _ F _ H ⟨by simp, fun j hj => List.getElem?_set_ne (by rintro rfl; exact hj hi)⟩ r1 e1
theorem gsw_nil : GsW X vs gnil [] := pgs_weak pgs_nil fun v σ H Q ⟨F, A, sl, d, sl', r, p, hm, q⟩ => by
  cases p with
  | nil => cases hm; exact ⟨rfl, q σ F A H Same.refl r (Ext.refl r)⟩
  | cons _ _ => cases hm
theorem gsw_cons {g : D → List Sl → Option (List Sl)} {gs : List D → List Sl → Option (List Sl)} {t : Expr} {ts : List Expr} (h : GW X vs g t) (k : GsW X vs gs ts) (hs : (assignEach (t :: ts) X.env).map (·.2) = assign t X.env :: (assignEach ts X.env).map (·.2) := by rfl) : GsW X vs (gcons g gs) (t :: ts) :=
  pgs_weak (pgs_cons h k hs) fun v σ H Q ⟨F, A, sl, d, sl', r, p, hm, q⟩ => by
    cases p with
    | nil => cases hm
    | cons p ps =>
      obtain ⟨sl1, h1, h2⟩ := Option.bind_eq_some_iff.mp hm
      exact ⟨_, _, rfl, F, A, sl, _, sl1, r, p, h1, fun σ1 F1 A1 H1 s1 r1 e1 => ⟨F1, A1, sl1, _, sl', r1, ps.stay (r.stay e1), h2, fun σ2 F2 A2 H2 s2 r2 e2 => q σ2 F2 A2 H2 (s1.trans s2) r2 (e1.trans e2)⟩⟩
theorem gw_tup {gs : List D → List Sl → Option (List Sl)} {ts : List Expr} {k n : Nat} (hc : X.calm = true) (h : GsW X vs gs ts) (hn : (assignEach ts X.env).length = n := by rfl) (hst : (assignEach ts X.env).findIdx? (·.1) = none := by rfl) : GW X vs (gtup n gs) (.Tuple ts k pos) :=
  pg_or (pg_tup hc h hn hst) (pg_unl hc h hn hst) fun v σ H Q ⟨F, A, sl, d, sl', r, p, hm, q⟩ => by
    unfold gtup at hm
    cases e : seqOf d with
    | none => rw [e] at hm; cases hm
    | some ds =>
      rw [e] at hm
      simp only at hm
      split at hm
      · rename_i hl
        cases d <;> simp [seqOf] at e
        · subst e
          cases p with
          | lst f t => exact .inr ⟨_, _, rfl, f.seq, by rw [t.length]; exact hl, F, A, sl, _, sl', r, t, hm, q⟩
        · subst e
          cases p with
          | tup f t => exact .inl ⟨_, _, rfl, f.seq, by rw [t.length]; exact hl, F, A, sl, _, sl', r, t, hm, q⟩
      · cases hm
end

/-! ### one clause -/
def lcLoop (g : D → List Sl → Option (List Sl)) (tt : M Bool) (te : M D) (vs : List Nat) : List D → Nat → List Sl → Option (List D × List Sl)
  | [], _, sl => some ([], sl)
  | d :: ds, n, sl => match g d sl with
    | none => none
    | some sl1 => match tt sl1 with
      | none => none
      | some (false, sl2) => (match wipeS vs sl2 with
        | none => none
        | some sl3 => lcLoop g tt te vs ds n sl3)
      | some (true, sl2) => (match te sl2 with
        | none => none
        | some (y, sl3) => if n < sizeLine then (match wipeS vs sl3 with
          | none => none
          | some sl4 => match lcLoop g tt te vs ds (n + 1) sl4 with
            | none => none
            | some (ys, s) => some (y :: ys, s)) else none)
def lcM (src : M (List D × Option Nat)) (g : D → List Sl → Option (List Sl)) (tt : M Bool) (te : M D) (vs : List Nat) : M Rv := fun sl => match src sl with
  | none => none
  | some ((ds, lk), sl1) => match wipeS vs (lockO lk sl1) with
    | none => none
    | some sl2 => match lcLoop g tt te vs ds 0 sl2 with
      | none => none
      | some (rs, sl3) => some (.fr (.lst rs), unlockO lk (backS (lockO lk sl1) vs sl3))
section
variable {K : PySem.W.Frag} {F F' F0 F1 F2 : Addr → Prop} {A A' A0 A1 A2 : Nat → Option Addr} {sl sl' sl0 sl1 sl2 : List Sl} {σ σ' : L2.St} {H H' H0 H1 H2 : Hp} {p : Addr}
/-- the loop from a state on; the new list at p -/
theorem lc_turns {g : D → List Sl → Option (List Sl)} {tt : M Bool} {te : M D} {vs : List Nat} {ds rs acc : List D} {s3 : List Sl} {J : It} {Kp : (Addr → Prop) → (Nat → Option Addr) → List Sl → Hp → Prop} {τ : L2.St} {Qd : Hp → Prop} (sr : Src K ds J Kp) (hτ : L2.wipe τ vs = τ)
    (r : Rel K F A sl τ H) (kp : Kp F A sl H) (H0n : H0 p = none) (x0 : Ext F0 A0 sl0 H0 F A sl H) (al : Alone F A p) {accv : List V} (hp : H p = some (.lst accv)) (ra : RpAll K F H accv acc)
    (hl : lcLoop g tt te vs ds acc.length sl = some (rs, s3))
    (fin : ∀ F' A' H' vs', Rel K F' A' s3 τ H' → Ext F0 A0 sl0 H0 F' A' s3 H' → Alone F' A' p → H' p = some (.lst vs') → RpAll K F' H' vs' (acc ++ rs) → Qd H')
    (stay : ∀ F' A' s' σ' H', Rel K F' A' s' σ' H' → Ext F0 A0 sl0 H0 F' A' s' H' → Kp F' A' s' H') :
    ∃ W : Nat → Nat → Hp → Prop, (∃ m, W 0 m H) ∧ ∀ i m H, W i m H →
      (J.stop i H ∧ Qd H) ∨ (J.go i H ∧ ∃ Nx : Hp → Prop, (∀ H', Nx H' → ∃ m', m' < m ∧ W (i + 1) m' H') ∧ ∀ x H', J.yld i H x H' → tGW K vs g x τ H' fun σ2 H2 => L2.wipe σ2 vs = τ ∧ tT K tt σ2 H2 fun b H3 =>
        if b = true then tD K te σ2 H3 fun y H4 => ∃ acc, H4 p = some (.lst acc) ∧ acc.length < sizeLine ∧ Nx (upd H4 p (.lst (acc ++ [y]))) else Nx H3) := by
  let W : Nat → Nat → Hp → Prop := fun i m H' => m = ds.length - i ∧ i ≤ ds.length ∧ ∃ F' A' s' vs' a' rest, Rel K F' A' s' τ H' ∧ Ext F0 A0 sl0 H0 F' A' s' H' ∧ Alone F' A' p ∧ H' p = some (.lst vs') ∧ RpAll K F' H' vs' a' ∧ lcLoop g tt te vs (ds.drop i) a'.length s' = some (rest, s3) ∧ a' ++ rest = acc ++ rs
  refine ⟨W, ⟨ds.length, by simp, Nat.zero_le _, F, A, sl, accv, acc, rs, r, x0, al, hp, ra, by simpa using hl, rfl⟩, ?_⟩
  rintro i m H2 ⟨rfl, hle, F2, A2, s2, v2, a2, rest, r2, x2, al2, hp2, ra2, l2, ea⟩
  have k2 := stay F2 A2 s2 τ H2 r2 x2
  by_cases hi : i < ds.length
  · refine .inr ⟨sr.go F2 A2 s2 τ H2 i r2 k2 hi, fun H' => ∃ n', W (i + 1) n' H', fun H' ⟨n', w⟩ => ⟨n', by rw [w.1]; omega, w⟩, fun x H3 y => ?_⟩
    obtain ⟨F3, d, hd, g3, p3⟩ := sr.yld F2 A2 s2 τ H2 i x H3 r2 k2 hi y
    have hdrop : ds.drop i = d :: ds.drop (i + 1) := by
      obtain ⟨h1, h2⟩ := List.getElem?_eq_some_iff.mp hd
      rw [List.drop_eq_getElem_cons h1, h2]
    rw [hdrop] at l2
    unfold lcLoop at l2
    cases e3 : g d s2 with
    | none => rw [e3] at l2; cases l2
    | some s4 =>
      rw [e3] at l2
      simp only at l2
      have r3 := r2.grow g3
      have x3 := g3.ext r2
      refine ⟨F3, A2, s2, d, s4, r3, p3, e3, fun σ4 F4 A4 H4 sm r4 x4 => ⟨sm.wipe.trans hτ, ?_⟩⟩
      cases e4 : tt s4 with
      | none => rw [e4] at l2; cases l2
      | some z =>
        obtain ⟨b, s5⟩ := z
        rw [e4] at l2
        refine ⟨F4, A4, s4, b, s5, r4, e4, fun F5 A5 H5 r5 x5 => ?_⟩
        have y5 := (x3.trans x4).trans x5
        obtain ⟨al5, hp5⟩ := al2.ext hp2 y5
        have ra5 := ra2.stay (r2.stay y5)
        cases b with
        | false =>
          show ∃ n', W (i + 1) n' H5
          simp only at l2
          cases e6 : wipeS vs s5 with
          | none => rw [e6] at l2; cases l2
          | some s6 =>
            rw [e6] at l2
            obtain ⟨r6, x6, _⟩ := wipe_ok r5 e6
            rw [sm.wipe.trans hτ] at r6
            exact ⟨_, rfl, hi, F5, A5, s6, v2, a2, rest, r6, (x2.trans y5).trans x6, al5, hp5, ra5, l2, ea⟩
        | true =>
          show tD K te σ4 H5 fun y H4 => ∃ acc, H4 p = some (.lst acc) ∧ acc.length < sizeLine ∧ ∃ n', W (i + 1) n' (upd H4 p (.lst (acc ++ [y])))
          simp only at l2
          cases e6 : te s5 with
          | none => rw [e6] at l2; cases l2
          | some z =>
            obtain ⟨y, s6⟩ := z
            rw [e6] at l2
            simp only at l2
            split at l2
            · rename_i hsz
              refine ⟨F5, A5, s5, y, s6, r5, e6, fun v F6 A6 H6 r6 x6 p6 => ?_⟩
              obtain ⟨al6, hp6⟩ := al5.ext hp5 x6
              have ra6 := ra5.stay (r5.stay x6)
              refine ⟨v2, hp6, by rw [ra2.length]; exact hsz, ?_⟩
              cases e7 : wipeS vs s6 with
              | none => rw [e7] at l2; cases l2
              | some s7 =>
                rw [e7] at l2
                simp only at l2
                obtain ⟨r7, x7, _⟩ := wipe_ok r6 e7
                rw [sm.wipe.trans hτ] at r7
                cases e8 : lcLoop g tt te vs (ds.drop (i + 1)) (a2.length + 1) s7 with
                | none => rw [e8] at l2; cases l2
                | some z =>
                  obtain ⟨ys, s8⟩ := z
                  rw [e8] at l2
                  cases l2
                  have st := stay_upd (H := H6) (u := .lst (v2 ++ [v])) al6.nf
                  refine ⟨_, rfl, hi, F6, A6, s7, v2 ++ [v], a2 ++ [y], ys, r7.put al6, (((x2.trans y5).trans x6).trans x7).put H0n, al6, upd_same, (ra6.stay st).append (.cons (p6.stay st) .nil), ?_, by rw [List.append_assoc]; exact ea⟩
                  rw [List.length_append]
                  exact e8
            · cases l2
  · have e : i = ds.length := by omega
    subst e
    rw [List.drop_length] at l2
    cases l2
    rw [List.append_nil] at ea
    subst ea
    exact .inl ⟨sr.stop F2 A2 _ τ H2 _ r2 k2 rfl, fin F2 A2 H2 v2 r2 x2 al2 hp2 ra2⟩
theorem lc_weak {src : M (List D × Option Nat)} {g : D → List Sl → Option (List Sl)} {tt : M Bool} {te : M D} {vs : List Nat} {Q : VK} (h : tR K (lcM src g tt te vs) σ H Q) : tLc (tI K src) (tGW K vs g) (tT K tt) (tD K te) vs σ H Q := by
  obtain ⟨F, A, sl, r, sl', rel, hm, q⟩ := h
  unfold lcM at hm
  cases e1 : src sl with
  | none => rw [e1] at hm; cases hm
  | some z =>
    obtain ⟨⟨ds, lk⟩, sl1⟩ := z
    rw [e1] at hm
    simp only at hm
    cases e2 : wipeS vs (lockO lk sl1) with
    | none => rw [e2] at hm; cases hm
    | some sl2 =>
      rw [e2] at hm
      simp only at hm
      cases e3 : lcLoop g tt te vs ds 0 sl2 with
      | none => rw [e3] at hm; cases hm
      | some z =>
        obtain ⟨rs, sl3⟩ := z
        rw [e3] at hm
        cases hm
        refine ⟨F, A, sl, ds, lk, sl1, rel, e1, fun F1 A1 H1 J Kp r1 x1 fr kp sr Dd hD => ?_⟩
        have rL := r1.lock (lk := lk)
        obtain ⟨r2, x2, n2⟩ := wipe_ok rL e2
        obtain ⟨gr, rg⟩ := grow_lst (K := K) (F := F1) (vs := []) (ds := []) hD (Live.nf r1.frz hD) .nil
        have na : ∀ j, A1 j ≠ some Dd := fun j z => by
          obtain ⟨_, o, w⟩ := r1.own j Dd z
          rw [hD] at w; cases w
        refine lc_turns sr (wipe_sub fun _ h => h) (r2.grow gr) (sr.stay _ _ _ _ _ _ _ _ _ rL kp (x2.trans (gr.ext r2))) hD (x2.trans (gr.ext r2)) ⟨Live.nf r1.frz hD, na⟩ upd_same .nil e3 (fun F' A' H' vs' r' x' al hp ra => ?_) (fun F' A' s' σ' H' r' x' => sr.stay _ _ _ _ _ _ _ _ _ rL kp x')
        obtain ⟨r4, x4⟩ := back_ok rL n2 r' x'
        exact q (.ref Dd) F' A' H' r4.unlock (x1.trans (x4.loop fr)) ⟨Dd, rfl, ⟨vs', hp, ra⟩, al.nf, al.na⟩ (NewOf.ext x1 (x := .fr (.lst rs)) fun a ea => by cases ea; exact hD)
end
section
variable {X : Cx} {elt tg iter : Expr} {ifs : List Expr} {scope : Scope} {own : List (Str × Nat)} {pos : Pos}
abbrev BTs (X : Cx) (m : M Bool) (ifs : List Expr) : Prop := PTs X ifs (tT X.K m)
theorem bts_nil : BTs X (pure true) [] := ⟨fun pins s σ H Q I h => pts_nil.run pins s σ H Q I (by
  obtain ⟨F, A, sl, b, sl', r, hm, q⟩ := h
  obtain ⟨rfl, rfl⟩ := pure_some hm
  exact q F A H r (Ext.refl r))⟩
theorem bts_one {c : Expr} {m : M Bool} (h : BT X m c) : BTs X m [c] := pts_one h
theorem re_lc {src : M (List D × Option Nat)} {g : D → List Sl → Option (List Sl)} {tt : M Bool} {te : M D} {vs : List Nat} (hc : X.calm = true) (hN : X.N.Nodup) (hi : IE X src tg iter) (ok : BlkOk X.N X.env.scope scope own) (hv : own.map (·.2) = vs)
    (hg : ∀ (s : Shared) (H : Hp) (C : Addr) (cl : List (Str × Addr)) (fp : List Addr), GW (X.blk s H scope (compEnvC scope cl C X.env) fp) vs g tg) (ht : ∀ (s : Shared) (H : Hp) (C : Addr) (cl : List (Str × Addr)) (fp : List Addr), BTs (X.blk s H scope (compEnvC scope cl C X.env) fp) tt ifs)
    (he : ∀ (s : Shared) (H : Hp) (C : Addr) (cl : List (Str × Addr)) (fp : List Addr), DE (X.blk s H scope (compEnvC scope cl C X.env) fp) te elt) (hs : ∀ x, foldedSetIterable iter X.env x = pure x := by intro _; rfl) :
    RE X (lcM src g tt te vs) (.ListComp elt [⟨tg, iter, ifs, 0⟩] scope pos) := by
  subst hv
  exact pe_weak (pe_lc (wi := tI X.K src) (g := tGW X.K (own.map (·.2)) g) (tt := tT X.K tt) (te := tD X.K te) hc hN hi ok hg ht he hs) fun σ H Q h => lc_weak h
/-- name = [..] where the compiler stores within the block -/
theorem ss_setLc {i : Nat} {y : Str} {py spos : Pos} {src : M (List D × Option Nat)} {g : D → List Sl → Option (List Sl)} {tt : M Bool} {te : M D} {vs : List Nat} (hc : X.calm = true) (hN : X.N.Nodup) (hy : X.N[i]? = some y) (hyl : X.env.scope.names.lookup y = some .local)
    (hsw : swapsWith (.ListComp elt [⟨tg, iter, ifs, 0⟩] scope pos) (some (.Name y py)) spos.line X.env = pure true) (hi : IE X src tg iter) (ok : BlkOk X.N X.env.scope scope own) (hv : own.map (·.2) = vs)
    (hg : ∀ (s : Shared) (H : Hp) (C : Addr) (cl : List (Str × Addr)) (fp : List Addr), GW (X.blk s H scope (compEnvC scope cl C X.env) fp) vs g tg) (ht : ∀ (s : Shared) (H : Hp) (C : Addr) (cl : List (Str × Addr)) (fp : List Addr), BTs (X.blk s H scope (compEnvC scope cl C X.env) fp) tt ifs)
    (he : ∀ (s : Shared) (H : Hp) (C : Addr) (cl : List (Str × Addr)) (fp : List Addr), DE (X.blk s H scope (compEnvC scope cl C X.env) fp) te elt) (hs : ∀ x, foldedSetIterable iter X.env x = pure x := by intro _; rfl) :
    SS X (asg i (lcM src g tt te vs)) (.Assign [.Name y py] (.ListComp elt [⟨tg, iter, ifs, 0⟩] scope pos) spos) := by
  subst hv
  have h := ps_setLc (i := i) (y := y) (py := py) (pos := pos) (spos := spos) (wi := tI X.K src) (g := tGW X.K (own.map (·.2)) g) (tt := tT X.K tt) (te := tD X.K te) hc hN hy hyl hsw hi ok hg ht he hs
  exact ss_asg (ps_weak h fun Dn σ H w => lc_weak w)
end
end RL
namespace RL
open PySem PySem.Spec PyProof.Rows L2

theorem Stay.trans' {F F' F'' : Addr → Prop} {H H' H'' : Hp} (s : Stay F H F' H') (t : Stay F' H' F'' H'') : Stay F H F'' H'' := fun b o f e => t b o (s b o f e).1 (s b o f e).2
/-! ### isinstance -/
def tyN : D → String
  | .none => "NoneType"
  | .bool _ => "bool"
  | .int _ => "int"
  | .str _ => "str"
  | .tuple _ => "tuple"
  | .list _ => "list"
  | _ => "?"
def isiF (T : String) : D → Option Bool
  | .none => some false
  | .bool _ => some (T == "bool" || T == "int")
  | .int _ => some (T == "int")
  | .str _ => some (T == "str")
  | .tuple _ => some (T == "tuple")
  | .list _ => some (T == "list")
  | _ => none
theorem Pk.ty {K : PySem.W.Frag} {F : Addr → Prop} {H : Hp} {v : V} {d : D} (h : Pk K F H v d) (n : tyN d ≠ "?") : TyX K H v (.type (tyN d)) := by
  rcases h with h | ⟨a, vs, ds, rfl, rfl, e, r⟩
  · cases h with
    | non => exact .base .non
    | bl b => exact .base (.bl b)
    | int i => exact .base (.int i)
    | str x => exact .base (.str x)
    | lst h t => exact .base (.lst h.2)
    | tup h t =>
      rcases h with h | ⟨o, its, k, e, c, _⟩
      · exact .base (.tup h.2)
      · exact .kTuple e c
    | ro h t => exact absurd rfl n
  · exact .base (.lst e)
theorem isi_kit {T : String} (hT : T = "tuple" ∨ T = "list" ∨ T = "int" ∨ T = "bool" ∨ T = "str") {d : D} {b : Bool} (h : isiF T d = some b) : tyN d ≠ "?" ∧ kitB (tyN d) T = some b := by
  cases d <;> simp only [isiF] at h <;> first | cases h; done | (cases h; refine ⟨by simp [tyN], ?_⟩; simp only [tyN]; rcases hT with rfl | rfl | rfl | rfl | rfl <;> decide +kernel)
def isiM (T : String) (m : M Rv) : M D := do
  let x ← m
  let d ← peek x
  let b ← opt (isiF T d)
  pure (.bool b)
section
variable {X : Cx} {e a b c : Expr} {es : List Expr} {p p2 pos : Pos} {x : Str}
theorem de_isi {T : String} {m : M Rv} (hT : T = "tuple" ∨ T = "list" ∨ T = "int" ∨ T = "bool" ∨ T = "str") (hg : Gl X "isinstance") (hm : X.mg "isinstance" = none) (hg2 : Gl X x) (hm2 : X.mg x = none) (hv : bootBuiltins x = some (.type T)) (he : RE X m e) (hn : x ≠ "__name__" := by decide) (hd : (x == ("__debug__" : Str)) = false := by decide)
    (h1 : starEach [e, .Name x p2] X.env = (false, eval e X.env) :: starEach [.Name x p2] X.env := by rfl) (h2 : starEach [.Name x p2] X.env = (false, eval (.Name x p2) X.env) :: starEach [] X.env := by rfl) (hpl : (backTo pos (starEach [.Name x p2] X.env)).any (·.1) = false := by rfl) :
    DE X (isiM T m) (.Call (.Name "isinstance" p) [e, .Name x p2] [] pos) := by
  have hy : PE X (.Name x p2) (tC (.ty T)) := pe_bltn hg2 hm2 hv rfl hn hd
  have hi := pe_callB (pos := pos) (p := p) call_isi hg hm PyProof.Rows.boot_isinstance (pa_cons he (pa_cons hy pa_nil h2) h1) (by decide) (by decide) h1 hpl
  refine pe_weak hi fun σ H Q ⟨F, A, sl, d, sl', rel, hm, q⟩ => ?_
  obtain ⟨r, sl1, e1, hm1⟩ := bind_some hm
  obtain ⟨d1, sl2, e2, hm2⟩ := bind_some hm1
  obtain ⟨b, sl3, e3', hm3⟩ := bind_some hm2
  obtain ⟨e3, rfl⟩ := opt_some e3'
  obtain ⟨rfl, rfl⟩ := pure_some hm3
  refine ⟨F, A, sl, r, sl1, rel, e1, fun v F1 A1 H1 r1 x1 ok _ => ?_⟩
  obtain ⟨rfl, pk⟩ := peek_ok r1 ok e2
  obtain ⟨n, k⟩ := isi_kit hT e3
  exact ⟨v, .ty T, .type (tyN d1), .type T, b, rfl, .ty T, pk.ty n, kit_ty k, q (.bl b) F1 A1 H1 r1 x1 (.bl b)⟩

/-! ### a <= b <= c -/
def chainM (ma mb mc : M D) (g g' : D → D → Option Bool) : M D := do
  let x ← ma
  let y ← mb
  let b ← opt (g x y)
  if b then (do let z ← mc; let b' ← opt (g' y z); pure (.bool b')) else pure (.bool false)
theorem chain_weak {op op' : CmpOp} {g g' : D → D → Option Bool} {ma mb mc : M D} {σ : L2.St} {H : Hp} {Q : VK} (h : tD X.K (chainM ma mb mc g g') σ H Q) : tChain (r2D X.K (asBl g)) (r2D X.K (asBl g')) (tD X.K ma) (tD X.K mb) (tD X.K mc) σ H Q := by
  obtain ⟨F, A, sl, d, sl', rel, hm, q⟩ := h
  obtain ⟨u, sl1, e1, hm1⟩ := bind_some hm
  obtain ⟨v, sl2, e2, hm2⟩ := bind_some hm1
  obtain ⟨k, sl3, e3', hm3⟩ := bind_some hm2
  obtain ⟨e3, rfl⟩ := opt_some e3'
  refine ⟨F, A, sl, u, sl1, rel, e1, fun xv F1 A1 H1 r1 x1 p1 => ⟨F1, A1, sl1, v, _, r1, e2, fun yv F2 A2 H2 r2 x2 p2 => ?_⟩⟩
  refine ⟨F2, u, v, .d (.bool k), r2.frz, .inl (p1.stay (r1.stay x2)), .inl p2, by unfold asBl; rw [e3]; rfl, fun w F3 H3 g3 ok3 => ?_⟩
  obtain rfl : w = .bl k := Rp.eqBl ok3
  refine ⟨k, rfl, ?_⟩
  have r3 := r2.grow g3
  have x3 := (x1.trans x2).trans (g3.ext r2)
  cases k with
  | false =>
    obtain ⟨rfl, rfl⟩ := pure_some hm3
    rw [if_neg Bool.false_ne_true]
    exact q _ F3 A2 H3 r3 x3 (.bl false)
  | true =>
    rw [if_pos rfl]
    obtain ⟨z, sl4, e4, hm4⟩ := bind_some hm3
    obtain ⟨k', sl5, e5', hm5⟩ := bind_some hm4
    obtain ⟨e5, rfl⟩ := opt_some e5'
    obtain ⟨rfl, rfl⟩ := pure_some hm5
    refine ⟨F3, A2, _, z, _, r3, e4, fun zv F4 A4 H4 r4 x4 p4 => ?_⟩
    refine ⟨F4, v, z, .d (.bool k'), r4.frz, .inl (p2.stay ((g3.stay).trans' (r3.stay x4))), .inl p4, by unfold asBl; rw [e5]; rfl, fun w F5 H5 g5 ok5 => ?_⟩
    exact q w F5 A4 H5 (r4.grow g5) ((x3.trans x4).trans (g5.ext r4)) ok5
theorem de_chain {op op' : CmpOp} {g g' : D → D → Option Bool} {ma mb mc : M D} (ho : OpR X (compareOp op) (r2D X.K (asBl g))) (ho' : OpR X (compareOp op') (r2D X.K (asBl g'))) (ha : DE X ma a) (hb : DE X mb b) (hc : DE X mc c)
    (hm : lastMarks [op, op'] [b, c] = false := by with_unfolding_all rfl) : DE X (chainM ma mb mc g g') (.Compare a [op, op'] [b, c] pos) := pe_weak (pe_chain ho ho' ha hb hc hm) fun σ H Q h => chain_weak (op := op) (op' := op') h
/-- data as a test -/
def valB (m : M D) : M Bool := do
  let d ← m
  opt (blD d)
theorem bt_valB {m : M D} (h : DE X m e) (he : ∀ whole, isTrue e X.env whole = (do let v ← whole; standAt e.pos; holding [v] (truthy v)) := by intro _; rfl) : BT X (valB m) e := pt_weak (pt_val h he) fun σ H Q ⟨F, A, sl, b, sl', rel, hm, q⟩ => by
  obtain ⟨d, sl1, h1, h2⟩ := bind_some hm
  obtain ⟨h3, rfl⟩ := opt_some h2
  obtain rfl := blD_some h3
  exact ⟨F, A, sl, _, _, rel, h1, fun v F1 A1 H1 r1 e1 p => ⟨b, p.eqBl, q F1 A1 H1 r1 e1⟩⟩
theorem bt_chain {op op' : CmpOp} {g g' : D → D → Option Bool} {ma mb mc : M D} (ho : OpR X (compareOp op) (r2D X.K (asBl g))) (ho' : OpR X (compareOp op') (r2D X.K (asBl g'))) (ha : DE X ma a) (hb : DE X mb b) (hc : DE X mc c)
    (hm : lastMarks [op, op'] [b, c] = false := by with_unfolding_all rfl) : BT X (valB (chainM ma mb mc g g')) (.Compare a [op, op'] [b, c] pos) := pt_weak (pt_chain ho ho' ha hb hc hm) fun σ H Q ⟨F, A, sl, k, sl', rel, hm, q⟩ => by
  obtain ⟨d, sl1, h1, h2⟩ := bind_some hm
  obtain ⟨h3, rfl⟩ := opt_some h2
  obtain rfl := blD_some h3
  exact chain_weak (op := op) (op' := op') ⟨F, A, sl, _, _, rel, h1, fun v F1 A1 H1 r1 e1 p => ⟨k, p.eqBl, q F1 A1 H1 r1 e1⟩⟩
end
end RL
namespace RL
open PySem PySem.Spec PyProof.Rows L2

/-! ### slices -/
def cutD {α : Type} (xs : List α) (lo hi : Option Int) : List α := (xs.drop (HT.sIx xs.length 0 lo)).take (HT.sIx xs.length xs.length hi - HT.sIx xs.length 0 lo)
theorem cut_rp {K : PySem.W.Frag} {F : Addr → Prop} {H : Hp} {vs : List V} {ds : List D} (r : RpAll K F H vs ds) (lo hi : Option Int) : RpAll K F H (cutV vs lo hi) (cutD ds lo hi) := by
  unfold cutV cutD
  rw [r.length]
  exact (r.drop _).take _
def sliceF : D → Option Int → Option Int → Option Rv
  | .list ds, lo, hi => some (.fr (.lst (cutD ds lo hi)))
  | .tuple ds, lo, hi => some (.d (.tuple (cutD ds lo hi)))
  | .dict [(.none, .list ds)], lo, hi => some (.fr (.lst (cutD ds lo hi)))
  | _, _, _ => none
def sliceM (mx : M Rv) (ml mh : M (Option Int)) : M Rv := do
  let x ← mx
  let lo ← ml
  let hi ← mh
  let d ← peek x
  opt (sliceF d lo hi)
def tP (K : PySem.W.Frag) (m : M (Option Int)) : TO := fun σ H Q => ∃ F A sl o sl', Rel K F A sl σ H ∧ m sl = some (o, sl') ∧ ∀ F' A' H', Rel K F' A' sl' σ H' → Ext F A sl H F' A' sl' H' → Q o H'
abbrev PD (X : Cx) (m : M (Option Int)) (e : Option Expr) : Prop := PO X e (tP X.K m)
theorem po_weak {X : Cx} {e : Option Expr} {t t' : TO} (h : PO X e t) (w : ∀ σ H Q, t' σ H Q → t σ H Q) : PO X e t' := ⟨fun pins s σ H Q I q => h.run pins s σ H Q I (w σ H Q q)⟩
def partM (m : M D) : M (Option Int) := do
  let d ← m
  let i ← opt (intD d)
  pure (some i)
section
variable {X : Cx} {e a b : Expr} {es : List Expr} {lo hi : Option Expr} {p p1 p2 p3 pos : Pos}
theorem pd_none : PD X (pure none) none := po_weak po_none fun σ H Q ⟨F, A, sl, o, sl', r, hm, q⟩ => by
  obtain ⟨rfl, rfl⟩ := pure_some hm
  exact q F A H r (Ext.refl r)
theorem pd_some {m : M D} (h : DE X m e) : PD X (partM m) (some e) := po_weak (po_some h) fun σ H Q ⟨F, A, sl, o, sl', r, hm, q⟩ => by
  obtain ⟨d, sl1, h1, hm1⟩ := bind_some hm
  obtain ⟨i, sl2, h2, hm2⟩ := bind_some hm1
  obtain ⟨h3, rfl⟩ := opt_some h2
  obtain ⟨rfl, rfl⟩ := pure_some hm2
  obtain rfl := intD_some h3
  exact ⟨F, A, sl, _, _, r, h1, fun v F1 A1 H1 r1 e1 p1 => ⟨i, p1.eqInt, q F1 A1 H1 r1 e1⟩⟩
theorem re_slice {m : M Rv} {ml mh : M (Option Int)} (he : RE X m e) (hl : PD X ml lo) (hu : PD X mh hi) : RE X (sliceM m ml mh) (.Subscript e (.Slice lo hi none p2) pos) := pe_weak (pe_slice (SlR.or sl_list sl_tupA) he hl hu) fun σ H Q ⟨F, A, sl, rr, sl', r, hm, q⟩ => by
  obtain ⟨x, sl1, h1, hm1⟩ := bind_some hm
  obtain ⟨l, sl2, h2, hm2⟩ := bind_some hm1
  obtain ⟨u, sl3, h3, hm3⟩ := bind_some hm2
  obtain ⟨d, sl4, h4, hm4⟩ := bind_some hm3
  obtain ⟨h5, rfl⟩ := opt_some hm4
  refine ⟨F, A, sl, x, sl1, r, h1, fun v F1 A1 H1 r1 e1 ok1 _ => ⟨F1, A1, sl1, l, sl2, r1, h2, fun F2 A2 H2 r2 e2 => ⟨F2, A2, sl2, u, sl3, r2, h3, fun F3 A3 H3 r3 e3 => ?_⟩⟩⟩
  have e12 := e1.trans e2
  obtain ⟨rfl, pk⟩ := peek_ok r3 ((ok1.ext r1 e2).ext r2 e3) h4
  have ea := e12.trans e3
  unfold sliceF at h5
  split at h5
  · cases h5
    obtain ⟨ad, vs, rfl, ha, ra⟩ := pk.list
    refine .inl ⟨ad, vs, rfl, .inl (.inl ha), fun q2 n => ?_⟩
    obtain ⟨g, rg⟩ := grow_lst n (Live.nf r3.frz n) (cut_rp ra l u)
    exact q _ F3 A3 _ (r3.grow g) (ea.trans (g.ext r3)) (rg.ok r3) (rg.new.ext ea)
  · cases h5
    have rp := pk.rpTup
    obtain ⟨ad, vs, rfl, ha, ra⟩ := rp.tuple
    have hl := ra.length
    refine .inr ⟨ad, vs, rfl, ha, fun hw => ?_, fun hw q2 n => ?_⟩
    · refine q _ F3 A3 _ r3 ea ?_ trivial
      rw [hl] at hw
      have : cutD _ l u = _ := show (List.drop (HT.sIx _ 0 l) _).take (HT.sIx _ _ u - HT.sIx _ 0 l) = _ by
        rw [hw.1, hw.2, List.drop_zero, Nat.sub_zero, List.take_length]
      show Rp X.K F3 H3 _ _
      rw [this]; exact rp
    · obtain ⟨g, rg⟩ := grow_tup (F := F3) n (cut_rp ra l u)
      exact q _ _ A3 _ (r3.grow g) (ea.trans (g.ext r3)) rg trivial
  · cases h5
    obtain ⟨ad, vs, rfl, ha, ra⟩ := pk.ro
    refine .inl ⟨ad, vs, rfl, ha.seq, fun q2 n => ?_⟩
    obtain ⟨g, rg⟩ := grow_lst n (Live.nf r3.frz n) (cut_rp ra l u)
    exact q _ F3 A3 _ (r3.grow g) (ea.trans (g.ext r3)) (rg.ok r3) (rg.new.ext ea)
  · cases h5
def revF : D → Option Rv
  | .list ds => some (.fr (.lst ds.reverse))
  | .dict [(.none, .list ds)] => some (.fr (.lst ds.reverse))
  | _ => none
def revM (mx : M Rv) : M Rv := do
  let x ← mx
  let d ← peek x
  opt (revF d)
theorem re_rev {m : M Rv} {k : Nat} (he : RE X m e) : RE X (revM m) (.Subscript e (.Slice none none (some (.UnaryOp .USub (.Constant (.int 1) k p1) p2)) p3) pos) := pe_weak (pe_revL he) fun σ H Q ⟨F, A, sl, rr, sl', r, hm, q⟩ => by
  obtain ⟨x, sl1, h1, hm1⟩ := bind_some hm
  obtain ⟨d, sl4, h4, hm4⟩ := bind_some hm1
  obtain ⟨h5, rfl⟩ := opt_some hm4
  refine ⟨F, A, sl, x, sl1, r, h1, fun v F3 A3 H3 r3 ea ok1 _ => ?_⟩
  obtain ⟨rfl, pk⟩ := peek_ok r3 ok1 h4
  unfold revF at h5
  split at h5
  · cases h5
    obtain ⟨ad, vs, rfl, ha, ra⟩ := pk.list
    refine ⟨ad, vs, rfl, .inl (.inl ha), fun q2 n => ?_⟩
    obtain ⟨g, rg⟩ := grow_lst n (Live.nf r3.frz n) ra.reverse
    exact q _ F3 A3 _ (r3.grow g) (ea.trans (g.ext r3)) (rg.ok r3) (rg.new.ext ea)
  · cases h5
    obtain ⟨ad, vs, rfl, ha, ra⟩ := pk.ro
    refine ⟨ad, vs, rfl, ha.seq, fun q2 n => ?_⟩
    obtain ⟨g, rg⟩ := grow_lst n (Live.nf r3.frz n) ra.reverse
    exact q _ F3 A3 _ (r3.grow g) (ea.trans (g.ext r3)) (rg.ok r3) (rg.new.ext ea)
  · cases h5
/-- -a -/
def negM (m : M D) : M D := do
  let d ← m
  let i ← opt (intD d)
  pure (.int (-i))
theorem de_neg {m : M D} (h : DE X m a) : DE X (negM m) (.UnaryOp .USub a pos) := pe_weak (pe_un un_neg h) fun σ H Q ⟨F, A, sl, o, sl', r, hm, q⟩ => by
  obtain ⟨d, sl1, h1, hm1⟩ := bind_some hm
  obtain ⟨i, sl2, h2, hm2⟩ := bind_some hm1
  obtain ⟨h3, rfl⟩ := opt_some h2
  obtain ⟨rfl, rfl⟩ := pure_some hm2
  obtain rfl := intD_some h3
  exact ⟨F, A, sl, _, _, r, h1, fun v F1 A1 H1 r1 e1 p1 => ⟨i, p1.eqInt, q _ F1 A1 H1 r1 e1 (.int _)⟩⟩

/-! ### list(range(..)), tuple(range(..)) -/
def tRg (K : PySem.W.Frag) (m : M (Int × Int)) : L2.St → Hp → (Int → Int → Hp → Prop) → Prop := fun σ H Q => ∃ F A sl o sl', Rel K F A sl σ H ∧ m sl = some (o, sl') ∧ ∀ F' A' H', Rel K F' A' sl' σ H' → Ext F A sl H F' A' sl' H' → Q o.1 o.2 H'
abbrev RG (X : Cx) (m : M (Int × Int)) (e : Expr) : Prop := PRg X e (tRg X.K m)
def rg1M (m : M D) : M (Int × Int) := do
  let d ← m
  let i ← opt (intD d)
  pure (0, i)
def rg2M (m n : M D) : M (Int × Int) := do
  let d ← m
  let e ← n
  let i ← opt (intD d)
  let j ← opt (intD e)
  pure (i, j)
theorem rg_1 {m : M D} (hg : Gl X "range") (hm : X.mg "range" = none) (ha : DE X m a) (na : starEach [a] X.env = (false, eval a X.env) :: starEach [] X.env := by rfl) : RG X (rg1M m) (.Call (.Name "range" p) [a] [] pos) := fun pins s σ H Q I ⟨F, A, sl, o, sl', r, hm', q⟩ => by
  obtain ⟨d, sl1, h1, hm1⟩ := bind_some hm'
  obtain ⟨i, sl2, h2, hm2⟩ := bind_some hm1
  obtain ⟨h3, rfl⟩ := opt_some h2
  obtain ⟨rfl, rfl⟩ := pure_some hm2
  obtain rfl := intD_some h3
  exact prg_1 hg hm ha na pins s σ H Q I ⟨F, A, sl, _, _, r, h1, fun v F1 A1 H1 r1 e1 p1 => ⟨i, p1.eqInt, q F1 A1 H1 r1 e1⟩⟩
theorem rg_2 {m n : M D} (hg : Gl X "range") (hm : X.mg "range" = none) (ha : DE X m a) (hb : DE X n b) (na : starEach [a, b] X.env = (false, eval a X.env) :: starEach [b] X.env := by rfl)
    (nb : starEach [b] X.env = (false, eval b X.env) :: starEach [] X.env := by rfl) (hp : (backTo pos (starEach [b] X.env)).any (·.1) = false := by rfl) : RG X (rg2M m n) (.Call (.Name "range" p) [a, b] [] pos) := fun pins s σ H Q I ⟨F, A, sl, o, sl', r, hm', q⟩ => by
  obtain ⟨d, sl1, h1, hm1⟩ := bind_some hm'
  obtain ⟨d', sl2, h2, hm2⟩ := bind_some hm1
  obtain ⟨i, sl3, h3, hm3⟩ := bind_some hm2
  obtain ⟨j, sl4, h4, hm4⟩ := bind_some hm3
  obtain ⟨h5, rfl⟩ := opt_some h3
  obtain ⟨h6, rfl⟩ := opt_some h4
  obtain ⟨rfl, rfl⟩ := pure_some hm4
  obtain rfl := intD_some h5
  obtain rfl := intD_some h6
  exact prg_2 hg hm ha hb na nb hp pins s σ H Q I ⟨F, A, sl, _, _, r, h1, fun v F1 A1 H1 r1 e1 p1 => ⟨F1, A1, sl1, _, _, r1, h2, fun u F2 A2 H2 r2 e2 p2 => ⟨i, j, p1.eqInt, p2.eqInt, q F2 A2 H2 r2 (e1.trans e2)⟩⟩⟩
def rgOk (p : Int × Int) : Bool := decide (-(2 ^ 62) ≤ p.1) && decide (p.1 < 2 ^ 62) && decide (-(2 ^ 62) ≤ p.2) && decide (p.2 < 2 ^ 62) && decide ((p.2 - p.1).toNat ≤ 2 ^ 24)
theorem rgOk_ok {p : Int × Int} (h : rgOk p = true) : RgOk p.1 p.2 := by
  unfold rgOk at h
  simp only [Bool.and_eq_true, decide_eq_true_eq] at h
  exact ⟨h.1.1.1.1, h.1.1.1.2, h.1.1.2, h.1.2, h.2⟩
theorem rg_rp {K : PySem.W.Frag} {F : Addr → Prop} {H : Hp} (i j : Int) : RpAll K F H (rgV i j) (rangeD i (j - i).toNat) := by
  unfold rgV rangeD
  generalize List.range (j - i).toNat = l
  induction l with
  | nil => exact .nil
  | cons x r ih => exact .cons (.int _) ih
def listRgM (m : M (Int × Int)) : M Rv := do
  let p ← m
  if rgOk p then pure (.fr (.lst (rangeD p.1 (p.2 - p.1).toNat))) else opt none
def tupRgM (m : M (Int × Int)) : M D := do
  let p ← m
  if rgOk p then pure (.tuple (rangeD p.1 (p.2 - p.1).toNat)) else opt none
theorem re_listRg {m : M (Int × Int)} (hc : X.calm = true) (hg : Gl X "list") (hm : X.mg "list" = none) (he : RG X m e) (na : starEach [e] X.env = (false, eval e X.env) :: starEach [] X.env := by rfl) : RE X (listRgM m) (.Call (.Name "list" p) [e] [] pos) := pe_weak (pe_listRg hc hg hm he na) fun σ H Q ⟨F, A, sl, rr, sl', r, hm', q⟩ => by
  obtain ⟨o, sl1, h1, hm1⟩ := bind_some hm'
  split at hm1
  · rename_i ho
    obtain ⟨rfl, rfl⟩ := pure_some hm1
    refine ⟨F, A, sl, o, _, r, h1, fun F1 A1 H1 r1 e1 => ⟨rgOk_ok ho, fun q2 n => ?_⟩⟩
    obtain ⟨g, rg⟩ := grow_lst n (Live.nf r1.frz n) (rg_rp (F := F1) o.1 o.2)
    exact q _ F1 A1 _ (r1.grow g) (e1.trans (g.ext r1)) (rg.ok r1) (rg.new.ext e1)
  · cases (opt_some hm1).1
theorem de_tupRg {m : M (Int × Int)} (hc : X.calm = true) (hg : Gl X "tuple") (hm : X.mg "tuple" = none) (he : RG X m e) (na : starEach [e] X.env = (false, eval e X.env) :: starEach [] X.env := by rfl) : DE X (tupRgM m) (.Call (.Name "tuple" p) [e] [] pos) := pe_weak (pe_tupRg hc hg hm he na) fun σ H Q ⟨F, A, sl, rr, sl', r, hm', q⟩ => by
  obtain ⟨o, sl1, h1, hm1⟩ := bind_some hm'
  split at hm1
  · rename_i ho
    obtain ⟨rfl, rfl⟩ := pure_some hm1
    refine ⟨F, A, sl, o, _, r, h1, fun F1 A1 H1 r1 e1 => ⟨rgOk_ok ho, fun q2 n => ?_⟩⟩
    obtain ⟨g, rg⟩ := grow_tup (F := F1) n (rg_rp o.1 o.2)
    exact q _ _ A1 _ (r1.grow g) (e1.trans (g.ext r1)) rg
  · cases (opt_some hm1).1
end

/-! ### an own list changed by a method -/
def methL (i : Nat) (m : M (List D)) (f : List D → List D → Option (D × List D)) : M D := fun sl => match sl[i]? with
  | some (.own _ _ (.lst _)) => (match m sl with
    | none => none
    | some (ds, sl1) => match sl1[i]? with
      | some (.own io false (.lst xs)) => (f xs ds).map fun p => (p.1, sl1.set i (.own io false (.lst p.2)))
      | _ => none)
  | _ => none
def MethOk (f : List D → List D → Option (D × List D)) (r : V → List V → Hp → VK → Prop) : Prop :=
  ∀ (K : PySem.W.Frag) (F : Addr → Prop) (H : Hp) (a : Addr) (vs ws : List V) (xs ds ys : List D) (y : D) (Q : VK), H a = some (.lst vs) → RpAll K F H vs xs → RpAll K F H ws ds → f xs ds = some (y, ys) →
    (∀ w us, RpAll K F H us ys → Rp K F H w y → Q w (upd H a (.lst us))) → r (.ref a) ws H Q
section
variable {X : Cx} {e o : Expr} {es : List Expr} {name : Str} {apos cpos : Pos} {id : String} {r : V → List V → Hp → VK → Prop} {f : List D → List D → Option (D × List D)}
theorem methL_end {i : Nat} {F : Addr → Prop} {A : Nat → Option Addr} {sl sl' sl1 : List Sl} {σ : L2.St} {H : Hp} {Q : VK} {m : M (List D)} {d : D} (h : MethOk f r) (rel : Rel X.K F A sl σ H) (hm : methL i m f sl = some (d, sl'))
    (q : ∀ v F' A' H', Rel X.K F' A' sl' σ H' → Ext F A sl H F' A' sl' H' → Rp X.K F' H' v d → Q v H') :
    ∃ v, σ[i]? = some (some v) ∧ tyV X.K "list" v H ∧ tAD X.K m σ H fun ws H1 => r v ws H1 Q := by
  unfold methL at hm
  cases h0 : sl[i]? with
  | none => rw [h0] at hm; cases hm
  | some s0 =>
    rw [h0] at hm
    cases s0 with
    | nil => cases hm
    | val _ => cases hm
    | own io0 lk0 o0 =>
      cases o0 with
      | dk _ => cases hm
      | dt _ => cases hm
      | lst xs0 =>
        obtain ⟨a0, e1, e2, vs0, e3, _⟩ := rel.slot i _ h0
        refine ⟨.ref a0, e1, .inl ⟨rfl, vs0, .inl (.inl e3)⟩, ?_⟩
        simp only at hm
        cases h1 : m sl with
        | none => rw [h1] at hm; cases hm
        | some z =>
          obtain ⟨ds, sl1⟩ := z
          rw [h1] at hm
          simp only at hm
          refine ⟨F, A, sl, ds, sl1, rel, h1, fun ws F1 A1 H1 r1 x1 pr => ?_⟩
          cases h2 : sl1[i]? with
          | none => rw [h2] at hm; cases hm
          | some s =>
            rw [h2] at hm
            cases s with
            | nil => cases hm
            | val _ => cases hm
            | own io lk o =>
              cases o with
              | dk _ => cases lk <;> cases hm
              | dt _ => cases lk <;> cases hm
              | lst xs =>
                cases lk with
                | true => cases hm
                | false =>
                  obtain ⟨⟨y, ys⟩, h3, h4⟩ := Option.map_eq_some_iff.mp hm
                  cases h4
                  obtain ⟨a, e4, e5, vs, e6, ra⟩ := r1.slot i _ h2
                  rw [e1] at e4
                  cases e4
                  refine h X.K F1 H1 a0 vs ws xs ds ys y Q e6 ra pr h3 fun w us ru rw' => ?_
                  have nf := (r1.own i a0 e5).1
                  have st := stay_upd (H := H1) (u := .lst us) nf
                  obtain ⟨r2, x2⟩ := mutate (u := .lst us) (o' := .lst ys) r1 h2 e5 ⟨us, upd_same, ru.stay st⟩
                  exact q w F1 A1 _ r2 (x1.trans x2) (rw'.stay st)
theorem de_meth {i : Nat} {m : M (List D)} (h : MethOk f r) (slot : Slot "list" name id) (hty : typeOf (.builtin id) = pure (.type "method_descriptor")) (hm : MtR X id r) (ho : PE X o (tVar i)) (ha : AD X m (e :: es))
    (hbase : attributeBase o name X.env (eval o X.env) = eval o X.env := by rfl)
    (hfew : ((backTo cpos (starEach (e :: es) X.env)).all (fun x => !x.1) && (backToKw cpos (keywordEach [] X.env)).all (fun x => x.1.isSome)
      && decide ((e :: es).length + ([] : List Keyword).length + (if ([] : List Keyword).isEmpty then 0 else 1) < 30)) = true := by rfl)
    (hline : (apos.endLine == cpos.line) = true := by rfl) (hs : starEach (e :: es) X.env = (false, eval e X.env) :: starEach es X.env := by rfl) (hplain : (backTo cpos (starEach es X.env)).any (·.1) = false := by rfl) :
    DE X (methL i m f) (.Call (.Attribute o name apos) (e :: es) [] cpos) := pe_weak (pe_bm PySem.F.plainAttrs_list slot hty hm ho ha hbase hfew hline hs hplain) fun σ H Q ⟨F, A, sl, d, sl', rel, hm', q⟩ => by
  obtain ⟨v, e1, ty, t⟩ := methL_end (sl1 := sl) h rel hm' q
  exact ⟨v, e1, ty, t⟩
theorem de_meth0 {i : Nat} (h : MethOk f r) (slot : Slot "list" name id) (hty : typeOf (.builtin id) = pure (.type "method_descriptor")) (hm : MtR X id r) (ho : PE X o (tVar i))
    (hbase : attributeBase o name X.env (eval o X.env) = eval o X.env := by rfl) (hline : (apos.endLine == cpos.line) = true := by rfl) : DE X (methL i (pure []) f) (.Call (.Attribute o name apos) [] [] cpos) :=
  pe_weak (pe_bm0 PySem.F.plainAttrs_list slot hty hm ho hbase hline) fun σ H Q ⟨F, A, sl, d, sl', rel, hm', q⟩ => by
    obtain ⟨v, e1, ty, F1, A1, sl1, ws, sl2, r1, h1, k⟩ := methL_end (sl1 := sl) h rel hm' q
    obtain ⟨rfl, rfl⟩ := pure_some h1
    exact ⟨v, e1, ty, k [] F1 A1 H r1 (Ext.refl r1) .nil⟩
end
def appendF : List D → List D → Option (D × List D)
  | xs, [d] => if xs.length < sizeLine then some (.none, xs ++ [d]) else none
  | _, _ => none
theorem append_ok : MethOk appendF rAppend := fun K F H a vs ws xs ds ys y Q ha rv rw' e q => by
  unfold appendF at e
  split at e
  · split at e
    · rename_i hl
      cases e
      cases rw' with
      | cons p t =>
        cases t
        exact ⟨a, vs, _, rfl, rfl, ha, by rw [rv.length]; exact hl, q _ _ (rv.append (.cons p .nil)) .non⟩
    · cases e
  · cases e
def extendF : List D → List D → Option (D × List D)
  | xs, [.list zs] => if xs.length + zs.length ≤ sizeLine then some (.none, xs ++ zs) else none
  | _, _ => none
theorem extend_ok : MethOk extendF rExtend := fun K F H a vs ws xs ds ys y Q ha rv rw' e q => by
  unfold extendF at e
  split at e
  · split at e
    · rename_i hl
      cases e
      cases rw' with
      | cons p t =>
        cases t
        cases p with
        | lst f u => exact ⟨a, _, vs, _, rfl, rfl, ha, f.2, by rw [rv.length, u.length]; exact hl, q _ _ (rv.append u) .non⟩
    · cases e
  · cases e
def popF : List D → List D → Option (D × List D)
  | xs, [] => (xs[xs.length - 1]?).map fun y => (y, xs.dropLast)
  | _, _ => none
theorem pop_ok : MethOk popF rPop := fun K F H a vs ws xs ds ys y Q ha rv rw' e q => by
  unfold popF at e
  split at e
  · cases rw'
    obtain ⟨z, e1, e2⟩ := Option.map_eq_some_iff.mp e
    cases e2
    obtain ⟨v, e3, p⟩ := rv.getD e1
    exact ⟨a, vs, v, rfl, rfl, ha, by rw [rv.length]; exact e3, q _ _ rv.dropLast p⟩
  · cases e
def popAtF : List D → List D → Option (D × List D)
  | xs, [.int i] => if -(2 ^ 63) ≤ i ∧ i < 2 ^ 63 then (match seqIndex? i xs.length with
    | some k => (xs[k]?).map fun y => (y, xs.eraseIdx k)
    | none => none) else none
  | _, _ => none
theorem popAt_ok : MethOk popAtF rPopAt := fun K F H a vs ws xs ds ys y Q ha rv rw' e q => by
  unfold popAtF at e
  split at e
  · split at e
    · rename_i hi
      cases rw' with
      | cons p t =>
        cases t
        obtain rfl := p.eqInt
        split at e
        · rename_i k hk
          obtain ⟨z, e1, e2⟩ := Option.map_eq_some_iff.mp e
          cases e2
          obtain ⟨v, e3, p⟩ := rv.getD e1
          exact ⟨a, vs, _, k, v, rfl, rfl, ha, hi.1, hi.2, by rw [rv.length]; exact hk, e3, q _ _ (rv.eraseIdx k) p⟩
        · cases e
    · cases e
  · cases e
end RL
namespace RL
open PySem PySem.Spec PyProof.Rows L2

/-! ### x[i] = v -/
def gsub (j : Nat) (mi : M D) (d : D) : List Sl → Option (List Sl) := fun sl => match sl[j]? with
  | some (.own _ _ (.lst _)) => (match mi sl with
    | none => none
    | some (k, sl1) => match sl1[j]? with
      | some (.own io false (.lst xs)) => (match intD k with
        | some i => (ixN xs.length i).map fun n => sl1.set j (.own io false (.lst (xs.set n d)))
        | none => none)
      | _ => none)
  | _ => none
section
variable {X : Cx} {o i : Expr} {pos : Pos}
theorem ge_sub {j : Nat} {mi : M D} (ho : PE X o (tVar j)) (hi : DE X mi i)
    (ha : ∀ v, assign (.Subscript o i pos) X.env v = (do
      let ov ← holding [v] (eval o X.env)
      let iv ← holding [v, ov] (eval i X.env)
      standAt pos
      holding [v, ov, iv] (setItem ov iv v)
      release [v, ov, iv] []) := by intro _; rfl) : GE X (gsub j mi) (.Subscript o i pos) := pg_weak (pg_sub ho hi set_list ha) fun v σ H Q ⟨F, A, sl, d, sl', rel, p, hm, q⟩ => by
  unfold gsub at hm
  cases h0 : sl[j]? with
  | none => rw [h0] at hm; cases hm
  | some s0 =>
    rw [h0] at hm
    cases s0 with
    | nil => cases hm
    | val _ => cases hm
    | own io0 lk0 o0 =>
      cases o0 with
      | dk _ => cases hm
      | dt _ => cases hm
      | lst xs0 =>
        obtain ⟨a0, e1, e2, vs0, e3, _⟩ := rel.slot j _ h0
        refine ⟨.ref a0, e1, ?_⟩
        simp only at hm
        cases h1 : mi sl with
        | none => rw [h1] at hm; cases hm
        | some z =>
          obtain ⟨k, sl1⟩ := z
          rw [h1] at hm
          simp only at hm
          refine ⟨F, A, sl, k, sl1, rel, h1, fun w F1 A1 H1 r1 x1 pk => ?_⟩
          cases h2 : sl1[j]? with
          | none => rw [h2] at hm; cases hm
          | some s =>
            rw [h2] at hm
            cases s with
            | nil => cases hm
            | val _ => cases hm
            | own io lk oo =>
              cases oo with
              | dk _ => cases lk <;> cases hm
              | dt _ => cases lk <;> cases hm
              | lst xs =>
                cases lk with
                | true => cases hm
                | false =>
                  simp only at hm
                  cases h3 : intD k with
                  | none => rw [h3] at hm; cases hm
                  | some ii =>
                    rw [h3] at hm
                    obtain ⟨n, h4, h5⟩ := Option.map_eq_some_iff.mp hm
                    cases h5
                    obtain rfl := intD_some h3
                    obtain ⟨a, e4, e5, vs, e6, ra⟩ := r1.slot j _ h2
                    rw [e1] at e4
                    cases e4
                    refine ⟨a0, vs, ii, n, rfl, pk.eqInt, e6, by rw [ra.length]; exact h4, ?_⟩
                    have nf := (r1.own j a0 e5).1
                    have st := stay_upd (H := H1) (u := .lst (vs.set n v)) nf
                    have p1 : Rp X.K F1 H1 v d := p.stay (rel.stay x1)
                    obtain ⟨r2, x2⟩ := mutate (u := .lst (vs.set n v)) (o' := .lst (xs.set n d)) r1 h2 e5 ⟨_, upd_same, (ra.set n p1).stay st⟩
                    exact q σ F1 A1 _ r2 (x1.trans x2)
end

/-! ### a, b = x, y -/
def settleAll : List Rv → M (List Rv)
  | [] => pure []
  | r :: rs => do
    let x ← settle r
    let xs ← settleAll rs
    pure (x :: xs)
def putAll : List Nat → List Rv → List Sl → Option (List Sl)
  | [], [], sl => some sl
  | i :: is, r :: rs, sl => (putRv i r sl).bind (putAll is rs)
  | _, _, _ => none
def setsV : List Nat → List V → L2.St → L2.St
  | i :: is, v :: vs, σ => setsV is vs (σ.set i (some v))
  | _, _, σ => σ
def parS (is : List Nat) (m : M (List Rv)) : S := fun sl => match (m >>= settleAll) sl with
  | some (rs, sl1) => (putAll is rs sl1).map fun sl2 => (.nx, sl2)
  | none => none
def NoSl' (rs : List Rv) : Prop := ∀ j, Rv.sl j ∉ rs
section
variable {K : PySem.W.Frag} {F F' F0 F1 F2 : Addr → Prop} {A A' A0 A1 A2 : Nat → Option Addr} {sl sl' sl0 sl1 sl2 : List Sl} {σ σ0 σ' : L2.St} {H H' H0 H1 H2 : Hp}
theorem settleAll_ok : ∀ {rs ys : List Rv} {vs : List V} {F : Addr → Prop} {A : Nat → Option Addr} {sl sl' : List Sl}, Rel K F A sl σ H → Ext F0 A0 sl0 H0 F A sl H → PySem.Paired (RvOk K F A H σ) vs rs → Apart H0 vs rs → settleAll rs sl = some (ys, sl') →
    ∃ F' A', Rel K F' A' sl' σ H ∧ Ext F0 A0 sl0 H0 F' A' sl' H ∧ PySem.Paired (RvOk K F' A' H σ) vs ys ∧ Apart H0 vs ys ∧ NoSl' ys ∧ (∀ (w : V) (o' : OO), (w, Rv.fr o') ∈ vs.zip ys → (w, Rv.fr o') ∈ vs.zip rs) ∧ Ext F A sl H F' A' sl' H
  | [], ys, vs, F, A, sl, sl', r, e0, p, ap, h => by
    obtain ⟨rfl, rfl⟩ := pure_some h
    cases p
    exact ⟨F, A, r, e0, .nil, .nil, (fun j z => by cases z), (fun _ _ z => z), Ext.refl r⟩
  | x :: rs, ys, vs, F, A, sl, sl', r, e0, p, ap, h => by
    obtain ⟨y, sl1, h1, h2⟩ := bind_some h
    obtain ⟨yr, sl2, h3, h4⟩ := bind_some h2
    obtain ⟨rfl, rfl⟩ := pure_some h4
    cases p with
    | @cons v _ vr _ pv pr =>
      cases ap with
      | cons nw dj apr =>
        have key : ∃ F1 A1, Rel K F1 A1 sl1 σ H ∧ Ext F A sl H F1 A1 sl1 H ∧ RvOk K F1 A1 H σ v y ∧ NewOf H0 v y ∧ (∀ j, y ≠ .sl j) ∧ (∀ o, y = .fr o → x = .fr o) := by
          cases x with
          | d d => cases h1; exact ⟨F, A, r, Ext.refl r, pv, nw, (fun _ z => by cases z), (fun _ z => by cases z)⟩
          | fr o => cases h1; exact ⟨F, A, r, Ext.refl r, pv, nw, (fun _ z => by cases z), (fun _ z => z)⟩
          | sl j =>
            obtain ⟨F1, A1, r1, x1, ok1, _, n1, n2⟩ := settle_ok (H0 := H) r (Ext.refl r) pv trivial h1
            refine ⟨F1, A1, r1, x1, ok1, ?_, n1, fun o z => (n2 o z).1⟩
            cases y with
            | d d => trivial
            | sl j => trivial
            | fr o => cases (n2 o rfl).1
        obtain ⟨F1, A1, r1, x1, ok1, nw1, n1, n2⟩ := key
        obtain ⟨F2, A2, r2, x2, p2, ap2, ns2, zz2, xx2⟩ := settleAll_ok r1 (e0.trans x1) (paired_ext r x1 pr) apr h3
        refine ⟨F2, A2, r2, x2, .cons (ok1.ext r1 xx2) p2, .cons nw1 (fun o eo w o' hw => dj o (n2 o eo) w o' (zz2 w o' hw)) ap2, fun j z => ?_, fun w o' hw => ?_, x1.trans xx2⟩
        · rcases List.mem_cons.mp z with z | z
          · exact n1 j z.symm
          · exact ns2 j z
        · rw [List.zip_cons_cons] at hw ⊢
          rcases List.mem_cons.mp hw with z | z
          · obtain ⟨rfl, z2⟩ := Prod.mk.inj z
            rw [n2 o' z2.symm]; exact List.mem_cons_self
          · exact List.mem_cons_of_mem _ (zz2 w o' z)
theorem rvok_any {v : V} {x : Rv} (n : ∀ j, x ≠ .sl j) (h : RvOk K F A H σ v x) : RvOk K F A H σ' v x := by
  cases x with
  | d _ => exact h
  | fr _ => exact h
  | sl j => exact absurd rfl (n j)
theorem putAll_ok : ∀ {is : List Nat} {rs : List Rv} {vs : List V} {A : Nat → Option Addr} {sl sl' : List Sl} {σ : L2.St}, Rel K F A sl σ H → Ext F0 A0 sl0 H0 F A sl H → PySem.Paired (RvOk K F A H σ0) vs rs → Apart H0 vs rs → NoSl' rs → putAll is rs sl = some sl' →
    ∃ A', Rel K F A' sl' (setsV is vs σ) H ∧ Ext F0 A0 sl0 H0 F A' sl' H ∧ is.length = vs.length
  | [], rs, vs, A, sl, sl', σ, r, e0, p, ap, ns, h => by
    cases rs with
    | nil => cases h; cases p; exact ⟨A, r, e0, rfl⟩
    | cons _ _ => cases h
  | i :: is, rs, vs, A, sl, sl', σ, r, e0, p, ap, ns, h => by
    cases rs with
    | nil => cases h
    | cons x rs =>
      obtain ⟨sl1, h1, h2⟩ := Option.bind_eq_some_iff.mp h
      cases p with
      | @cons v _ vr _ pv pr =>
        cases ap with
        | cons nw dj apr =>
          obtain ⟨A1, r1, x1, hA⟩ := putRv_ok (σ := σ) r e0 pv nw h1
          have tail : ∀ {vr : List V} {rs : List Rv}, PySem.Paired (RvOk K F A H σ0) vr rs → (∀ o, x = .fr o → ∀ (w : V) (o' : OO), (w, Rv.fr o') ∈ vr.zip rs → w ≠ v) → PySem.Paired (RvOk K F A1 H σ0) vr rs := by
            intro vr rs pr dj
            induction pr with
            | nil => exact .nil
            | @cons w y ws ys pw pt ih =>
              refine .cons ?_ (ih fun o eo u o' hu => dj o eo u o' (by rw [List.zip_cons_cons]; exact List.mem_cons_of_mem _ hu))
              cases y with
              | d _ => exact pw
              | sl _ => exact pw
              | fr o2 =>
                obtain ⟨a, rfl, q, nf, na⟩ := pw
                refine ⟨a, rfl, q, nf, fun j z => ?_⟩
                rcases hA j a z with z | ⟨z, o, eo⟩
                · exact na j z
                · exact dj o eo (.ref a) o2 (by rw [List.zip_cons_cons]; exact List.mem_cons_self) z.symm
          obtain ⟨A2, r2, x2, l2⟩ := putAll_ok r1 x1 (tail pr dj) apr (fun j z => ns j (List.mem_cons_of_mem _ z)) h2
          exact ⟨A2, r2, x2, congrArg (· + 1) l2⟩
theorem par_end {is : List Nat} {m : M (List Rv)} {fl : Fl} {Dn : Ends} (rel : Rel K F A sl σ H) (hm : parS is m sl = some (fl, sl')) (q : Outs K Dn F A sl H fl sl') : tA K m σ H fun vs H1 => is.length = vs.length ∧ ∀ H2, (∃ F2, Grow F2 H1 F2 H2 ∧ True) → (∀ b, H1 b = H2 b ∨ H1 b = none) → (∀ b o, H1 b = some o → H2 b = some o) → Dn.nx (setsV is vs σ) H2 := by
  unfold parS at hm
  cases e1 : (m >>= settleAll) sl with
  | none => rw [e1] at hm; cases hm
  | some z =>
    obtain ⟨ys, sl2⟩ := z
    rw [e1] at hm
    obtain ⟨sl3, h3, h4⟩ := Option.map_eq_some_iff.mp hm
    cases h4
    obtain ⟨rs, sl1, h1, h2⟩ := bind_some e1
    refine ⟨F, A, sl, rs, sl1, rel, h1, fun vs F1 A1 H1 r1 x1 p1 ap => ?_⟩
    obtain ⟨F2, A2, r2, x2, p2, ap2, ns, _, _⟩ := settleAll_ok r1 x1 p1 ap h2
    refine ⟨?_, fun H2 _ _ kp => ?_⟩
    · obtain ⟨A3, _, _, l3⟩ := putAll_ok (σ := σ) r2 x2 p2 ap2 ns h3
      exact l3
    · have g : Grow F2 H1 F2 H2 := ⟨fun _ h => h, kp, fun _ h => .inl h⟩
      have p3 := paired_ext r2 (g.ext r2) p2
      obtain ⟨A3, r3, x3, _⟩ := putAll_ok (σ := σ) (r2.grow g) (x2.trans (g.ext r2)) p3 ap2 ns h3
      exact q F2 A3 H2 x3 r3.frz _ r3
end
section
variable {X : Cx} {is : List Nat} {m : M (List Rv)} {a b c : Expr} {pos : Pos}
theorem ss_par2 {i j : Nat} {x y : Str} {px py pt : Pos} {kt k2 pt2} (hc : X.calm = true) (hN : X.N.Nodup) (hi : X.N[i]? = some x) (hj : X.N[j]? = some y) (hij : i ≠ j)
    (hx : X.env.scope.names.lookup x = some .local) (hy : X.env.scope.names.lookup y = some .local) (ha : AR X m [a, b])
    (hw : swappedStores [.Tuple [.Name x px, .Name y py] kt pt] (.Tuple [a, b] k2 pt2) X.env = pure (some [x, y]))
    (hs : swapsWithSole [.Tuple [.Name x px, .Name y py] kt pt] (.Tuple [a, b] k2 pt2) pos.line X.env = pure false := by rfl) :
    SS X (parS [i, j] m) (.Assign [.Tuple [.Name x px, .Name y py] kt pt] (.Tuple [a, b] k2 pt2) pos) := ps_weak (ps_par hc hN hi hj hij hx hy ha hw hs) fun Dn σ H ⟨F, A, sl, fl, sl', r, hm, q⟩ => by
  obtain ⟨F1, A1, sl1, rs, sl2, r1, h1, k⟩ := par_end r hm q
  refine ⟨F1, A1, sl1, rs, sl2, r1, h1, fun vs F2 A2 H2 r2 x2 p2 ap => ?_⟩
  obtain ⟨l, w⟩ := k vs F2 A2 H2 r2 x2 p2 ap
  match vs, l with
  | [u, v], _ => exact ⟨u, v, rfl, w H2 ⟨F2, Grow.refl, trivial⟩ (fun _ => .inl rfl) (fun _ _ z => z)⟩
theorem ss_par3 {i j l : Nat} {x y z : Str} {px py pz pt : Pos} {kt k2 pt2} (hc : X.calm = true) (hN : X.N.Nodup) (hi : X.N[i]? = some x) (hj : X.N[j]? = some y) (hl : X.N[l]? = some z) (hij : i ≠ j) (hil : i ≠ l) (hjl : j ≠ l)
    (hx : X.env.scope.names.lookup x = some .local) (hy : X.env.scope.names.lookup y = some .local) (hz : X.env.scope.names.lookup z = some .local) (ha : AR X m [a, b, c])
    (hw : swappedStores [.Tuple [.Name x px, .Name y py, .Name z pz] kt pt] (.Tuple [a, b, c] k2 pt2) X.env = pure (some [x, y, z]))
    (hs : swapsWithSole [.Tuple [.Name x px, .Name y py, .Name z pz] kt pt] (.Tuple [a, b, c] k2 pt2) pos.line X.env = pure false := by rfl) :
    SS X (parS [i, j, l] m) (.Assign [.Tuple [.Name x px, .Name y py, .Name z pz] kt pt] (.Tuple [a, b, c] k2 pt2) pos) := ps_weak (ps_par3 hc hN hi hj hl hij hil hjl hx hy hz ha hw hs) fun Dn σ H ⟨F, A, sl, fl, sl', r, hm, q⟩ => by
  obtain ⟨F1, A1, sl1, rs, sl2, r1, h1, k⟩ := par_end r hm q
  refine ⟨F1, A1, sl1, rs, sl2, r1, h1, fun vs F2 A2 H2 r2 x2 p2 ap => ?_⟩
  obtain ⟨l, w⟩ := k vs F2 A2 H2 r2 x2 p2 ap
  match vs, l with
  | [u, v, t], _ => exact ⟨u, v, t, rfl, w H2 ⟨F2, Grow.refl, trivial⟩ (fun _ => .inl rfl) (fun _ _ z => z)⟩
/-- stored by names, one behind the other -/
def tNm (is : List Nat) : TGs := fun vs σ H Q => is.length = vs.length ∧ Q (setsV is vs σ) H
theorem gnm_nil : PGs X [] (tNm []) := pgs_weak pgs_nil fun vs σ H Q ⟨l, q⟩ => by
  match vs, l with
  | [], _ => exact ⟨rfl, q⟩
theorem gnm_cons {i : Nat} {t : Expr} {ts : List Expr} (h : PG X t (gName i)) (k : PGs X ts (tNm is)) (hs : (assignEach (t :: ts) X.env).map (·.2) = assign t X.env :: (assignEach ts X.env).map (·.2) := by rfl) : PGs X (t :: ts) (tNm (i :: is)) :=
  pgs_weak (pgs_cons h k hs) fun vs σ H Q ⟨l, q⟩ => by
    match vs, l with
    | v :: vs, l => exact ⟨v, vs, rfl, Nat.succ.inj l, q⟩
/-- (the stores where the compiler does not turn them) -/
theorem ss_parG {n : Nat} {ts es : List Expr} {kt pt k2 pt2} (hc : X.calm = true) (ha : AR X m es) (hg : PGs X ts (tNm is)) (hn : (assignEach ts X.env).length = n := by rfl) (hst : (assignEach ts X.env).findIdx? (·.1) = none := by rfl)
    (hs : swapsWithSole [.Tuple ts kt pt] (.Tuple es k2 pt2) pos.line X.env = pure false := by rfl) (hw : swappedStores [.Tuple ts kt pt] (.Tuple es k2 pt2) X.env = pure none := by rfl)
    (h1 : (assignEach [.Tuple ts kt pt] X.env).map (·.2) = [assign (.Tuple ts kt pt) X.env] := by rfl) (hln : is.length = n := by rfl) (hsz : n ≤ 1000 := by decide) : SS X (parS is m) (.Assign [.Tuple ts kt pt] (.Tuple es k2 pt2) pos) :=
  ps_weak (ps_asg (pe_tup ha) (pg_tup hc hg hn hst) hs hw h1) fun Dn σ H ⟨F, A, sl, fl, sl', r, hm, q⟩ => by
    obtain ⟨F1, A1, sl1, rs, sl2, r1, h1, k⟩ := par_end r hm q
    refine ⟨F1, A1, sl1, rs, sl2, r1, h1, fun vs F2 A2 H2 r2 x2 p2 ap => ?_⟩
    obtain ⟨l, w⟩ := k vs F2 A2 H2 r2 x2 p2 ap
    refine ⟨by rw [sizeLine_eq]; omega, fun p hp => ⟨p, vs, rfl, .inl (.inl upd_same), by omega, l, w _ ⟨F2, ⟨fun _ h => h, fun b o e => by rw [upd_ne (ne_of_none e hp)]; exact e, fun _ h => .inl h⟩, trivial⟩ (fun b => ?_) (fun b o e => by rw [upd_ne (ne_of_none e hp)]; exact e)⟩⟩
    by_cases hb : b = p
    · subst hb; exact .inr hp
    · exact .inl (by rw [upd_ne hb])
end
end RL
namespace RL
open PySem PySem.Spec PyProof.Rows L2

/-! ### a set of a list's ints, alike ones among them (turned from the library's set of a tuple) -/
section
variable {P : Program} {wd : World} {AA : Around} {EE : Value → Shared → Prop} {z : Shared}
abbrev setO0 (wd : World) : Obj := { cls := .type "set", dict := none, data := .set #[] 0 (.fresh 0 0 (!wd.params.followText "set-order")) }
set_option maxHeartbeats 3200000 in
theorem call_set_lstI {a : Addr} {zs : Array Value} (ks : List Int) {QQ : Value → Shared → Prop} (hnone : AA.handled = none) (hlist : z.heap.IsList a zs) (hints : IntsAre zs.toList ks) (hroom : ks.length + 1 < scanBound)
    (fin : ∀ (h' : Heap) (t n : Nat), SetR wd h' z.heap.objs.size (fun j => decide (j ∈ ks)) n → n ≤ ks.length → (∀ b o, z.heap.get? b = some o → h'.get? b = some o) → QQ (.ref z.heap.objs.size) { z with heap := h', toks := t }) :
    wpAny (model P wd) AA (call (.type "set") [.ref a]) QQ EE z := by
  have hsize : zs.size = ks.length := by
    have q := IntsAre.length hints
    rwa [Array.length_toList] at q
  obtain ⟨c0, tl0, hmro⟩ := F.called_set.mro
  have hmade := F.called_set.made; have hsub := F.called_set.sub
  refine wpAny_call (codeAny_of_tree (show wpAny _ _ (callAny (.type "set") _) _ _ _ from wpAny_pure ⟨Code.quiet_builtin _ (by decide +kernel), codeAny_builtin F.entry_type_call ?_⟩))
  rw [Around.under_plain (weight_type_call_type "set" [.ref a] []) rfl]
  have g1 := F.called_set.notType; have g2 := F.called_set.canCreate; have g3 := F.typeCall_set_1 (.ref a)
  repeat (any_goals (first | assumption | wp_step))
  refine codeAny_mono (code_set_led1 (.ref a) (E := EE) (Q₁ := fun obj s₁ => obj = .ref z.heap.objs.size ∧ s₁ = { z with heap := z.heap.push (setO0 wd) }) ⟨rfl, rfl⟩) fun res z1 hr => ?_
  cases res with
  | error e => exact hr
  | ok fl =>
    cases fl with
    | ret obj =>
      obtain ⟨rfl, rfl⟩ := hr
      have gS : (z.heap.push (setO0 wd)).get? z.heap.objs.size = some (setO0 wd) := Heap.get?_push_size _ rfl
      have gT : Shared.TypeIs { z with heap := z.heap.push (setO0 wd) } (.ref z.heap.objs.size) "set" := ⟨_, gS, rfl⟩
      have g4 := F.called_set.init.lookup; have g5 := F.called_set.init.bind (.ref z.heap.objs.size)
      repeat (any_goals (first | assumption | wp_step))
      refine codeAny_mono (codeAny_call_builtin (R := wants (fun r s₂ => r = .none ∧ ∃ h' tk c, s₂ = { z with heap := h', toks := tk } ∧ SetR wd h' z.heap.objs.size (fun j => decide (j ∈ ks)) c ∧ c ≤ ks.length ∧ (∀ b o, z.heap.get? b = some o → h'.get? b = some o)) EE) F.called_set.init.plain F.entry_set_init (check_set_init_1 gT ?_)) fun r2 z2 hr2 => ?_
      · obtain ⟨ol, go, gc, nl, gd⟩ := hlist
        obtain ⟨oc, od, oda, osl⟩ := ol
        simp only at gc gd
        subst gc gd
        have go' : (z.heap.push (setO0 wd)).get? a = some { cls := .type "list", dict := od, data := .seq zs nl, slots := osl } := Heap.get?_push_of_some _ go
        have q1 := F.sub_list_set; have q2 := F.sub_list_frozenset; have q3 : (Value.type "list" == Value.type "dict") = false := by decide
        have isl : (z.heap.push (setO0 wd)).IsList a zs := ⟨_, go', rfl, nl, rfl⟩
        unfold Builtin.«set.__init__» noKeywords Builtin.Frozenset.updateFrom
        generalize hit : pyIter = itf
        wp_walk
        subst hit
        refine wpAny_pyIter_list isl (wpAny_bind (wpAny_runValue ?_))
        have lt0 : a < z.heap.objs.size := Heap.lt_size go
        have hn3 : AA.in1.in1.in1.handled = none := by simp [hnone]
        have ne1 : a ≠ (z.heap.push (setO0 wd)).objs.size := by
          rw [Heap.size_push]; exact Nat.ne_of_lt (Nat.lt_trans lt0 (Nat.lt_succ_self _))
        have ns1 : z.heap.objs.size ∉ [(z.heap.push (setO0 wd)).objs.size, a] := by
          rw [Heap.size_push]
          intro hmem
          rcases List.mem_cons.mp hmem with q | q
          · exact absurd q (Nat.ne_of_lt (Nat.lt_succ_self _))
          · exact absurd (List.mem_singleton.mp q) (Nat.ne_of_gt lt0)
        have vals : ∀ (i : Nat) (v : Value), zs[i]? = some v → ∃ k t, ks[i]? = some k ∧ v = .int k t := fun i v hv => by
          have hi : i < ks.length := by
            rw [← hsize]; exact (Array.getElem?_eq_some_iff.mp hv).1
          obtain ⟨t, e⟩ := PyProof.Rows.IntsAre.int_at hints i v (by rw [Array.getElem?_toList]; exact hv)
          exact ⟨ks[i], t, List.getElem?_eq_getElem hi, by rw [e, List.getD_eq_getElem?_getD, List.getElem?_eq_getElem hi]; rfl⟩
        refine set_update_ints ((Walks.list hn3 _ a ne1 zs).toS) z.heap.objs.size ns1 ks hsize hroom vals (zs.size - 0) 0 _ (by omega) (Nat.zero_le _) ⟨⟨_, Heap.get?_push_size _ rfl, rfl, rfl⟩, (isl.push _)⟩ ⟨0, Nat.le_refl 0, setR_new_at (Heap.get?_push_of_some _ gS)⟩ fun z' c' mv hc' hS' => ?_
        obtain ⟨h', gg, dd, tk', os'⟩ := z'
        obtain rfl : gg = z.gens := mv.gens
        obtain rfl : dd = z.drawn := mv.drawn
        obtain rfl : os' = z.os := mv.os
        show wpAny _ _ _ _ _ _
        refine wpAny_pure ?_
        show wpAny _ _ (ret Value.none) _ _ _
        rw [hsize] at hc'
        refine wpAny_pure ⟨rfl, h', tk', c', rfl, hS', hc', fun b o e => ?_⟩
        have b0 : b < z.heap.objs.size := Heap.lt_size e
        refine mv.heap b o (fun hmem => ?_) (Heap.get?_push_of_some _ (Heap.get?_push_of_some _ e))
        rcases List.mem_cons.mp hmem with q | q
        · exact absurd q (Nat.ne_of_lt b0)
        · have q4 := List.mem_singleton.mp q
          rw [Heap.size_push] at q4
          exact absurd q4 (Nat.ne_of_lt (Nat.lt_trans b0 (Nat.lt_succ_self _)))
      · cases r2 with
        | error e => exact hr2
        | ok fl2 =>
          cases fl2 with
          | ret r =>
            obtain ⟨rfl, h', tk, c', rfl, u1, u2, u3⟩ := hr2
            repeat (any_goals (first | assumption | wp_step))
            exact fin _ _ _ u1 u2 u3
          | _ => exact hr2.elim
    | _ => exact hr.elim
end
end RL
namespace RL
open PySem PySem.Spec PyProof.Rows L2

/-! ### sorted(set(ints)), len(set(ints)) -/
def insU (i : Int) : List Int → List Int
  | [] => [i]
  | j :: r => if i < j then i :: j :: r else if i = j then j :: r else j :: insU i r
def setI : List Int → List Int
  | [] => []
  | i :: r => insU i (setI r)
theorem insU_mem (i k : Int) : ∀ l : List Int, k ∈ insU i l ↔ k = i ∨ k ∈ l
  | [] => by simp [insU]
  | j :: r => by
    unfold insU
    split
    · simp
    · split
      · rename_i h; subst h; simp
      · rw [List.mem_cons, insU_mem i k r, List.mem_cons]
        constructor
        · rintro (h | h | h)
          · exact .inr (.inl h)
          · exact .inl h
          · exact .inr (.inr h)
        · rintro (h | h | h)
          · exact .inr (.inl h)
          · exact .inl h
          · exact .inr (.inr h)
theorem setI_mem (k : Int) : ∀ l : List Int, k ∈ setI l ↔ k ∈ l
  | [] => by simp [setI]
  | i :: r => by rw [setI, insU_mem, setI_mem k r, List.mem_cons]
theorem insU_sorted (i : Int) : ∀ {l : List Int}, l.Pairwise (· < ·) → (insU i l).Pairwise (· < ·)
  | [], _ => by simp [insU]
  | j :: r, h => by
    unfold insU
    have h' := h
    rw [List.pairwise_cons] at h
    split
    · rename_i hij
      refine List.pairwise_cons.mpr ⟨fun x hx => ?_, h'⟩
      rcases List.mem_cons.mp hx with rfl | hx
      · exact hij
      · exact Int.lt_trans hij (h.1 x hx)
    · split
      · exact h'
      · rename_i h1 h2
        refine List.pairwise_cons.mpr ⟨fun x hx => ?_, insU_sorted i h.2⟩
        rcases (insU_mem i x r).mp hx with rfl | hx
        · omega
        · exact h.1 x hx
theorem setI_sorted : ∀ l : List Int, (setI l).Pairwise (· < ·)
  | [] => .nil
  | i :: r => insU_sorted i (setI_sorted r)
theorem lt_one : ∀ {a b : List Int}, (∀ k, k ∈ a ↔ k ∈ b) → a.Pairwise (· < ·) → b.Pairwise (· < ·) → a = b
  | [], [], _, _, _ => rfl
  | [], y :: b, m, _, _ => by have := (m y).mpr List.mem_cons_self; simp at this
  | x :: a, [], m, _, _ => by have := (m x).mp List.mem_cons_self; simp at this
  | x :: a, y :: b, m, ha, hb => by
    rw [List.pairwise_cons] at ha hb
    have e : x = y := by
      rcases List.mem_cons.mp ((m x).mp List.mem_cons_self) with q | q
      · exact q
      · rcases List.mem_cons.mp ((m y).mpr List.mem_cons_self) with z | z
        · exact z.symm
        · have := ha.1 y z
          have := hb.1 x q
          omega
    subst e
    refine congrArg (x :: ·) (lt_one (fun k => ?_) ha.2 hb.2)
    constructor
    · intro hk
      rcases List.mem_cons.mp ((m k).mp (List.mem_cons_of_mem _ hk)) with q | q
      · have := ha.1 k hk; omega
      · exact q
    · intro hk
      rcases List.mem_cons.mp ((m k).mpr (List.mem_cons_of_mem _ hk)) with q | q
      · have := hb.1 k hk; omega
      · exact q
theorem nodup_lt {l : List Int} (h : l.Pairwise (· < ·)) : l.Nodup := h.imp fun h => by omega
theorem setR_len {w : World} {h : Heap} {a : Addr} {ks : List Int} {n : Nat} (R : SetR w h a (fun j => decide (j ∈ ks)) n) : n = (setI ks).length := by
  obtain ⟨o, es, ep, t, ho, hex, hd, g, nd, hm, hb, hf, hn, hr, hl⟩ := R
  have p : (es.toList.map keyOf).Perm (setI ks) := by
    refine (List.perm_ext_iff_of_nodup nd (nodup_lt (setI_sorted ks))).mpr fun k => ?_
    rw [← hm k, setI_mem, decide_eq_true_iff]
  rw [← p.length_eq, List.length_map, Array.length_toList]
  exact hn.symm
/-- a set's items: those of a list, of a tuple -/
def itsI (d : D) : Option (List Int) := (seqOf d).bind intsOf
def sortSetF (d : D) : Option Rv := (itsI d).bind fun ns => if ns.length + 1 < scanBound ∧ (setI ns).length < 64 then some (.fr (.lst ((setI ns).map PyData.int))) else none
def lenSetF (d : D) : Option Rv := (itsI d).bind fun ns => if ns.length + 1 < scanBound then some (.d (.int ((setI ns).length : Nat))) else none
def lk1 (m : M Rv) (g : D → Option Rv) : M Rv := do
  let x ← m
  let d ← peek x
  opt (g d)
section
variable {X : Cx} {a : Expr} {p p2 q pos : Pos}
theorem its_at {K : PySem.W.Frag} {F : Addr → Prop} {H : Hp} {v : V} {d : D} {ns : List Int} (pk : Pk K F H v d) (e : itsI d = some ns) : ∃ l, v = .ref l ∧ (SqT K H l (ns.map V.int) ∨ SqL K H l (ns.map V.int)) := by
  obtain ⟨ds, e1, e2⟩ := Option.bind_eq_some_iff.mp e
  obtain ⟨l, vs, rfl, sq, ra⟩ := Pk.seqOf pk e1
  obtain rfl := intsOf_rp ra e2
  exact ⟨l, rfl, sq⟩
theorem set_made {pins : List (Addr × Obj)} {s : Shared} {σ : L2.St} {H : Hp} {Q : Value → Shared → Prop} {E : Value → Shared → Prop} {l : Addr} {ns : List Int} (hc : X.calm = true) (I : Inv X pins σ H s) (sq : SqT X.K H l (ns.map V.int) ∨ SqL X.K H l (ns.map V.int)) (hb : ns.length + 1 < scanBound)
    (k : ∀ (b : Addr) (s' : Shared) (c : Nat), Inv X pins σ H s' → SetR X.w s'.heap b (fun j => decide (j ∈ ns)) c → Q (.ref b) s') : wpAny (model X.prog X.w) X.A (call (.type "set") [.ref l]) Q E s := by
  rcases sq with sq | sq
  · obtain ⟨its, r, pl, hz⟩ := I.tuple sq
    exact call_set_tupI ns (I.ok.hd hc) pl (by simpa using RZ.intsAre_vals r) hb fun h' tk c S _ hk => k _ _ c (I.kept hk) S
  · obtain ⟨its, r, pl, hz⟩ := I.list sq
    exact call_set_lstI ns (I.ok.hd hc) pl.isList (by simpa using RZ.intsAre_vals r) hb fun h' tk c S _ hk => k _ _ c (I.kept hk) S
def tSortSet (K : PySem.W.Frag) (ta : TE) : TE := fun σ H Q => ta σ H fun x H1 => ∃ (l : Addr) (ns : List Int), x = .ref l ∧ (SqT K H1 l (ns.map V.int) ∨ SqL K H1 l (ns.map V.int)) ∧ ns.length + 1 < scanBound ∧ (setI ns).length < 64 ∧
  ∀ q, H1 q = none → Q (.ref q) (upd H1 q (.lst ((setI ns).map V.int)))
theorem pe_sortSet {ta : TE} (hc : X.calm = true) (hg : Gl X "sorted") (hm : X.mg "sorted" = none) (hg2 : Gl X "set") (hm2 : X.mg "set" = none) (ha : PE X a ta) (na : starEach [a] X.env = (false, eval a X.env) :: starEach [] X.env := by rfl) :
    PE X (.Call (.Name "sorted" p) [.Call (.Name "set" p2) [a] [] q] [] pos) (tSortSet X.K ta) := by
  refine ⟨fun pins s σ H Q I h => ?_⟩
  refine Call_ (ld_blt I hg hm PyProof.Rows.boot_sorted (PyProof.Rows.callWith_builtin1 (PyProof.Rows.args_cons (Call_ (ld_blt I hg2 hm2 boot_set ?_)) rfl) rfl rfl))
  refine PyProof.Rows.callWith_type1 (PyProof.Rows.args_cons (thn (ha.run pins s σ H _ I h) fun v s1 ⟨x, H1, I1, r1, q1⟩ => PyProof.Rows.args_nil ?_) na) na rfl
  obtain ⟨l, ns, rfl, sq, hb, h64, q1⟩ := q1
  cases r1
  refine set_made hc I1 sq hb fun b s2 c I2 R => PyProof.Rows.args_nil ?_
  have hl := setR_len R
  refine sorted_set R (I2.ok.hd hc) (by rw [hl]; exact h64) fun s3 r out c2 ns' k1 k2 k3 k4 k5 k6 k7 k8 k9 => ?_
  have e : ns' = setI ns := lt_one (fun k => by rw [k8 k, setI_mem, decide_eq_true_iff]) k7 (setI_sorted ns)
  subst e
  have hlen : ((setI ns).map V.int).length ≤ sizeLine := by rw [List.length_map, sizeLine_eq]; omega
  have hr : H1 r = none := I2.hok.fresh k4
  have I3 : Inv X pins σ (upd H1 r (.lst ((setI ns).map V.int))) { s2 with heap := s3.heap, gens := s3.gens, drawn := s3.drawn, toks := s3.toks } :=
    I2.call (ch := []) (Un.laid k1 k4 hr) (I2.hok.laid k1 k4 ⟨hlen, out.toList, c2, vals_of_ints k6, k5⟩) (by rw [k2]; exact I2.bare) (fun _ z => nomatch z)
  have e3 : s3 = { s2 with heap := s3.heap, gens := s3.gens, drawn := s3.drawn, toks := s3.toks } := by
    cases s3; cases s2; cases k3; rfl
  rw [e3]
  exact ⟨.ref r, _, I3, rfl, q1 r hr⟩
theorem re_sortSet {m : M Rv} (hc : X.calm = true) (hg : Gl X "sorted") (hm : X.mg "sorted" = none) (hg2 : Gl X "set") (hm2 : X.mg "set" = none) (ha : RE X m a) (na : starEach [a] X.env = (false, eval a X.env) :: starEach [] X.env := by rfl) :
    RE X (lk1 m sortSetF) (.Call (.Name "sorted" p) [.Call (.Name "set" p2) [a] [] q] [] pos) := pe_weak (pe_sortSet hc hg hm hg2 hm2 ha na) fun σ H Q ⟨F, A, sl, rr, sl', r, hm, q⟩ => by
  obtain ⟨x, sl1, h1, hm1⟩ := bind_some hm
  obtain ⟨d, sl4, h4, hm4⟩ := bind_some hm1
  obtain ⟨h5, rfl⟩ := opt_some hm4
  refine ⟨F, A, sl, x, sl1, r, h1, fun v F3 A3 H3 r3 ea ok1 _ => ?_⟩
  obtain ⟨rfl, pk⟩ := peek_ok r3 ok1 h4
  obtain ⟨ns, e1, e2⟩ := Option.bind_eq_some_iff.mp h5
  obtain ⟨l, rfl, sq⟩ := its_at pk e1
  split at e2
  · rename_i hl
    cases e2
    refine ⟨l, ns, rfl, sq, hl.1, hl.2, fun q2 n => ?_⟩
    obtain ⟨g, rg⟩ := grow_lst n (Live.nf r3.frz n) (rp_ints (setI ns))
    exact q _ F3 A3 _ (r3.grow g) (ea.trans (g.ext r3)) (rg.ok r3) (rg.new.ext ea)
  · cases e2
def tLenSet' (K : PySem.W.Frag) (ta : TE) : TE := fun σ H Q => ta σ H fun x H1 => ∃ (l : Addr) (ns : List Int), x = .ref l ∧ (SqT K H1 l (ns.map V.int) ∨ SqL K H1 l (ns.map V.int)) ∧ ns.length + 1 < scanBound ∧ Q (.int ((setI ns).length : Nat)) H1
theorem pe_lenSet' {ta : TE} (hc : X.calm = true) (hg : Gl X "len") (hm : X.mg "len" = none) (hg2 : Gl X "set") (hm2 : X.mg "set" = none) (ha : PE X a ta) (na : starEach [a] X.env = (false, eval a X.env) :: starEach [] X.env := by rfl) :
    PE X (.Call (.Name "len" p) [.Call (.Name "set" p2) [a] [] q] [] pos) (tLenSet' X.K ta) := by
  refine ⟨fun pins s σ H Q I h => ?_⟩
  refine Call_ (ld_blt I hg hm boot_len (PyProof.Rows.callWith_builtin1 (PyProof.Rows.args_cons (Call_ (ld_blt I hg2 hm2 boot_set ?_)) rfl) rfl rfl))
  refine PyProof.Rows.callWith_type1 (PyProof.Rows.args_cons (thn (ha.run pins s σ H _ I h) fun v s1 ⟨x, H1, I1, r1, q1⟩ => PyProof.Rows.args_nil ?_) na) na rfl
  obtain ⟨l, ns, rfl, sq, hb, q1⟩ := q1
  cases r1
  refine set_made hc I1 sq hb fun b s2 c I2 R => PyProof.Rows.args_nil ?_
  have hl := setR_len R
  obtain ⟨o, es, ep, t, ho, hex, hd, g, nd, hm, hbd, hf, hn, hr, hl2⟩ := R
  exact call_len_set ho hex hd hf (by unfold scanBound at hbd; omega) ⟨.int ((setI ns).length : Nat), H1, I2.tok _, ⟨_, by rw [hn, hl]⟩, q1⟩
theorem re_lenSet {m : M Rv} (hc : X.calm = true) (hg : Gl X "len") (hm : X.mg "len" = none) (hg2 : Gl X "set") (hm2 : X.mg "set" = none) (ha : RE X m a) (na : starEach [a] X.env = (false, eval a X.env) :: starEach [] X.env := by rfl) :
    RE X (lk1 m lenSetF) (.Call (.Name "len" p) [.Call (.Name "set" p2) [a] [] q] [] pos) := pe_weak (pe_lenSet' hc hg hm hg2 hm2 ha na) fun σ H Q ⟨F, A, sl, rr, sl', r, hm, q⟩ => by
  obtain ⟨x, sl1, h1, hm1⟩ := bind_some hm
  obtain ⟨d, sl4, h4, hm4⟩ := bind_some hm1
  obtain ⟨h5, rfl⟩ := opt_some hm4
  refine ⟨F, A, sl, x, sl1, r, h1, fun v F3 A3 H3 r3 ea ok1 _ => ?_⟩
  obtain ⟨rfl, pk⟩ := peek_ok r3 ok1 h4
  obtain ⟨ns, e1, e2⟩ := Option.bind_eq_some_iff.mp h5
  obtain ⟨l, rfl, sq⟩ := its_at pk e1
  split at e2
  · rename_i hl
    cases e2
    exact ⟨l, ns, rfl, sq, hl, q _ F3 A3 H3 r3 ea (.int _) trivial⟩
  · cases e2
end

/-! ### dicts by ints and texts -/
def keyD : D → Option Key
  | .int i => some (.inl i)
  | .str x => some (.inr x)
  | _ => none
theorem keyD_rp {K : PySem.W.Frag} {F : Addr → Prop} {H : Hp} {v : V} {d : D} {k : Key} (r : Rp K F H v d) (h : keyD d = some k) : v = kV k := by
  cases d <;> simp [keyD] at h
  · subst h; rw [r.eqInt]; rfl
  · subst h; rw [r.eqStr]; rfl
def getD' {κ : Type} [DecidableEq κ] (kvs : List (κ × D)) (k : κ) : Option D := (kvs.find? fun kv => decide (kv.1 = k)).map (·.2)
def putD {κ : Type} [DecidableEq κ] (kvs : List (κ × D)) (k : κ) (d : D) : List (κ × D) := if (kvs.any fun kv => decide (kv.1 = k)) = true then kvs.map fun kv => if kv.1 = k then (kv.1, d) else kv else kvs ++ [(k, d)]
def mergeD {κ : Type} [DecidableEq κ] (kvs more : List (κ × D)) : List (κ × D) := more.foldl (fun acc kv => putD acc kv.1 kv.2) kvs
section
variable {K : PySem.W.Frag} {F F' : Addr → Prop} {H H' : Hp} {κ : Type} [DecidableEq κ]
inductive KvR (K : PySem.W.Frag) (F : Addr → Prop) (H : Hp) {κ : Type} : List (κ × V) → List (κ × D) → Prop
  | nil : KvR K F H [] []
  | cons {k : κ} {v : V} {d : D} {ws : List (κ × V)} {kvs : List (κ × D)} : Rp K F H v d → KvR K F H ws kvs → KvR K F H ((k, v) :: ws) ((k, d) :: kvs)
theorem KvR.of : ∀ {ws : List (κ × V)} {kvs : List (κ × D)}, ws.map (·.1) = kvs.map (·.1) → RpAll K F H (ws.map (·.2)) (kvs.map (·.2)) → KvR K F H ws kvs
  | [], [], _, _ => .nil
  | [], _ :: _, e, _ => by simp at e
  | _ :: _, [], e, _ => by simp at e
  | (k, v) :: ws, (k', d) :: kvs, e, r => by
    simp only [List.map_cons, List.cons.injEq] at e r
    obtain ⟨rfl, e2⟩ := e
    cases r with
    | cons p t => exact .cons p (KvR.of e2 t)
theorem KvR.to : ∀ {ws : List (κ × V)} {kvs : List (κ × D)}, KvR K F H ws kvs → ws.map (·.1) = kvs.map (·.1) ∧ RpAll K F H (ws.map (·.2)) (kvs.map (·.2))
  | _, _, .nil => ⟨rfl, .nil⟩
  | _, _, .cons p t => ⟨by simp [t.to.1], by simpa using .cons p t.to.2⟩
theorem KvR.stay (s : Stay F H F' H') : ∀ {ws : List (κ × V)} {kvs : List (κ × D)}, KvR K F H ws kvs → KvR K F' H' ws kvs
  | _, _, .nil => .nil
  | _, _, .cons p t => .cons (p.stay s) (t.stay s)
theorem KvR.length : ∀ {ws : List (κ × V)} {kvs : List (κ × D)}, KvR K F H ws kvs → ws.length = kvs.length
  | _, _, .nil => rfl
  | _, _, .cons _ t => congrArg (· + 1) t.length
theorem KvR.get (k : κ) : ∀ {ws : List (κ × V)} {kvs : List (κ × D)}, KvR K F H ws kvs → (getD' kvs k = none ∧ valV ws k = none) ∨ ∃ v d, getD' kvs k = some d ∧ valV ws k = some v ∧ Rp K F H v d
  | _, _, .nil => .inl ⟨rfl, rfl⟩
  | _, _, .cons (k := j) p t => by
    unfold getD' valV
    rw [List.find?_cons, List.find?_cons]
    by_cases e : j = k
    · simp only [e, decide_true]
      exact .inr ⟨_, _, rfl, rfl, p⟩
    · simp only [e, decide_false]
      exact t.get k
theorem KvR.any (k : κ) : ∀ {ws : List (κ × V)} {kvs : List (κ × D)}, KvR K F H ws kvs → (ws.any fun kv => decide (kv.1 = k)) = (kvs.any fun kv => decide (kv.1 = k))
  | _, _, .nil => rfl
  | _, _, .cons p t => by rw [List.any_cons, List.any_cons, t.any k]
theorem KvR.repl {k : κ} {v : V} {d : D} (q : Rp K F H v d) : ∀ {ws : List (κ × V)} {kvs : List (κ × D)}, KvR K F H ws kvs → KvR K F H (ws.map fun kv => if kv.1 = k then (kv.1, v) else kv) (kvs.map fun kv => if kv.1 = k then (kv.1, d) else kv)
  | _, _, .nil => .nil
  | _, _, .cons (k := j) p t => by
    rw [List.map_cons, List.map_cons]
    by_cases e : j = k
    · simp only [e, if_true]; exact .cons q (t.repl q)
    · simp only [e, if_false]; exact .cons p (t.repl q)
theorem KvR.snoc {k : κ} {v : V} {d : D} (q : Rp K F H v d) : ∀ {ws : List (κ × V)} {kvs : List (κ × D)}, KvR K F H ws kvs → KvR K F H (ws ++ [(k, v)]) (kvs ++ [(k, d)])
  | _, _, .nil => .cons q .nil
  | _, _, .cons p t => .cons p (t.snoc q)
theorem KvR.put {k : κ} {v : V} {d : D} (q : Rp K F H v d) {ws : List (κ × V)} {kvs : List (κ × D)} (r : KvR K F H ws kvs) : KvR K F H (putK ws k v) (putD kvs k d) := by
  unfold putK putD
  rw [r.any k]
  split
  · exact r.repl q
  · exact r.snoc q
theorem KvR.merge : ∀ {ms : List (Key × V)} {mds : List (Key × D)} {ws : List (Key × V)} {kvs : List (Key × D)}, KvR K F H ms mds → KvR K F H ws kvs → KvR K F H (mergeK ws ms) (mergeD kvs mds)
  | _, _, _, _, .nil, r => r
  | _, _, _, _, .cons p t, r => by
    unfold mergeK mergeD
    rw [List.foldl_cons, List.foldl_cons]
    exact KvR.merge t (r.put p)
end
/-! a display -/
def pairsM : List (M D × M D) → M (List (Key × D))
  | [] => pure []
  | (mk, mv) :: r => do
    let k ← mk
    let v ← mv
    let kk ← opt (keyD k)
    let rs ← pairsM r
    pure ((kk, v) :: rs)
def dispM (ms : List (M D × M D)) : M Rv := do
  let ps ← pairsM ms
  pure (.fr (.dk (mergeD [] ps)))
def tDD (K : PySem.W.Frag) (p : M D × M D) : TE × TE := (tD K p.1, tD K p.2)
theorem pairs_ok {K : PySem.W.Frag} {σ : L2.St} : ∀ {ms : List (M D × M D)} {F : Addr → Prop} {A : Nat → Option Addr} {sl sl' : List Sl} {H : Hp} {ps : List (Key × D)} {Q : List (V × V) → Hp → Prop}, Rel K F A sl σ H → pairsM ms sl = some (ps, sl') →
    (∀ vs F' A' H', Rel K F' A' sl' σ H' → Ext F A sl H F' A' sl' H' → KvR K F' H' vs ps → Q (vs.map fun kv => (kV kv.1, kv.2)) H') → tPairs (ms.map (tDD K)) σ H Q
  | [], F, A, sl, sl', H, ps, Q, r, h, q => by
    obtain ⟨rfl, rfl⟩ := pure_some h
    exact q [] F A H r (Ext.refl r) .nil
  | (mk, mv) :: ms, F, A, sl, sl', H, ps, Q, r, h, q => by
    obtain ⟨k, sl1, h1, h2⟩ := bind_some h
    obtain ⟨v, sl2, h3, h4⟩ := bind_some h2
    obtain ⟨kk, sl3, h5', h6⟩ := bind_some h4
    obtain ⟨h5, rfl⟩ := opt_some h5'
    obtain ⟨rs, sl4, h7, h8⟩ := bind_some h6
    obtain ⟨rfl, rfl⟩ := pure_some h8
    show tD K mk σ H fun x H1 => tD K mv σ H1 fun y H2 => tPairs (ms.map (tDD K)) σ H2 fun ps H3 => Q ((x, y) :: ps) H3
    refine ⟨F, A, sl, k, sl1, r, h1, fun x F1 A1 H1 r1 x1 p1 => ⟨F1, A1, sl1, v, _, r1, h3, fun y F2 A2 H2 r2 x2 p2 => ?_⟩⟩
    refine pairs_ok r2 h7 fun vs F3 A3 H3 r3 x3 kr => ?_
    obtain rfl := keyD_rp p1 h5
    exact q ((kk, y) :: vs) F3 A3 H3 r3 ((x1.trans x2).trans x3) (.cons (p2.stay (r2.stay x3)) kr)
section
variable {X : Cx} {o i : Expr} {pos : Pos}
theorem re_disp {keys : List (Option Expr)} {values : List Expr} {ms : List (M D × M D)} (h : PPs X pos keys values (ms.map (tDD X.K))) (hall : keys.all (·.isSome) = true := by rfl) (hl : keys.length = values.length := by rfl) (h0 : keys ≠ [] := by simp)
    (h15 : keys.length ≤ 15 := by decide) (hm : ms.length = keys.length := by rfl) : RE X (dispM ms) (.Dict keys values pos) := pe_weak (pe_disp h hall hl h0 h15) fun σ H Q ⟨F, A, sl, rr, sl', r, hm', q⟩ => by
  obtain ⟨ps, sl1, h1, h2⟩ := bind_some hm'
  obtain ⟨rfl, rfl⟩ := pure_some h2
  intro p hp
  have g : Grow F H F (upd H p (.dK [])) := ⟨fun _ h => h, fun b o e => by rw [upd_ne (ne_of_none e hp)]; exact e, fun _ h => .inl h⟩
  have na : ∀ j, A j ≠ some p := fun j z => by
    obtain ⟨_, o, w⟩ := r.own j p z
    rw [hp] at w; cases w
  have al : Alone F A p := ⟨Live.nf r.frz hp, na⟩
  have len : ∀ {ms : List (M D × M D)} {sl sl' : List Sl} {ps : List (Key × D)}, pairsM ms sl = some (ps, sl') → ps.length = ms.length := by
    intro ms
    induction ms with
    | nil => intro sl sl' ps h; obtain ⟨rfl, rfl⟩ := pure_some h; rfl
    | cons m ms ih =>
      intro sl sl' ps h
      obtain ⟨k, sl1, h1, h2⟩ := bind_some h
      obtain ⟨v, sl2, h3, h4⟩ := bind_some h2
      obtain ⟨kk, sl3, h5, h6⟩ := bind_some h4
      obtain ⟨rs, sl4, h7, h8⟩ := bind_some h6
      obtain ⟨rfl, rfl⟩ := pure_some h8
      rw [List.length_cons, ih h7, List.length_cons]
  refine pairs_ok (r.grow g) h1 fun vs F1 A1 H1 r1 x1 kr => ?_
  obtain ⟨al1, hp1⟩ := al.ext upd_same x1
  refine ⟨hp1, vs, rfl, by rw [kr.length, len h1, hm]; exact h15, ?_⟩
  have st := stay_upd (H := H1) (u := .dK (mergeK [] vs)) al1.nf
  have km := ((KvR.merge kr .nil).stay st).to
  exact q (.ref p) F1 A1 _ (r1.put al1) (((g.ext r).trans x1).put hp) ⟨p, rfl, ⟨mergeK [] vs, upd_same, km.1, km.2⟩, al1.nf, al1.na⟩ (fun a ea => by cases ea; exact hp)
theorem pps0 : PPs X pos [] [] (([] : List (M D × M D)).map (tDD X.K)) := pps_nil
theorem pps1 {k v : Expr} {ks : List (Option Expr)} {vs : List Expr} {mk mv : M D} {ms : List (M D × M D)} (hk : DE X mk k) (hv : DE X mv v) (hr : PPs X pos ks vs (ms.map (tDD X.K))) : PPs X pos (some k :: ks) (v :: vs) (((mk, mv) :: ms).map (tDD X.K)) := pps_cons hk hv hr
end
/-! a look -/
def dictOf : Rv → M OO
  | .fr o => pure o
  | .d _ => fun _ => none
  | .sl i => fun sl => match sl[i]? with
    | some (.own _ _ o) => some (o, sl)
    | _ => none
def tupKeys : List D → Option (List Key)
  | [] => some []
  | d :: r => (keyD d).bind fun k => (tupKeys r).map (k :: ·)
def lookO (o : OO) (d : D) : Option (Option D) := match o with
  | .dk kvs => (keyD d).map fun k => getD' kvs k
  | .dt kvs => (match d with
    | .tuple ds => (tupKeys ds).map fun k => getD' kvs k
    | _ => none)
  | .lst _ => none
theorem dictOf_ok {K : PySem.W.Frag} {F : Addr → Prop} {A : Nat → Option Addr} {sl sl' : List Sl} {σ : L2.St} {H : Hp} {v : V} {x : Rv} {o : OO} (r : Rel K F A sl σ H) (ok : RvOk K F A H σ v x) (h : dictOf x sl = some (o, sl')) : sl' = sl ∧ ∃ a, v = .ref a ∧ OOk K F H a o := by
  cases x with
  | d x => cases h
  | fr o' =>
    obtain ⟨rfl, rfl⟩ := pure_some h
    obtain ⟨a, rfl, q, _⟩ := ok
    exact ⟨rfl, a, rfl, q⟩
  | sl i =>
    have ok' : σ[i]? = some (some v) := ok
    unfold dictOf at h
    cases e : sl[i]? with
    | none => simp [e] at h
    | some s =>
      have so := r.slot i s e
      rw [ok'] at so
      cases s with
      | nil => simp [e] at h
      | val d => simp [e] at h
      | own io lk o' =>
        simp [e] at h
        obtain ⟨rfl, rfl⟩ := h
        obtain ⟨a, e1, _, q⟩ := so
        cases e1
        exact ⟨rfl, a, rfl, q⟩
def getK (o : OO) (d : D) : Option D := match o with
  | .dk kvs => (keyD d).bind fun k => getD' kvs k
  | _ => none
def dgetM (mo : M Rv) (mk : M D) : M D := do
  let x ← mo
  let k ← mk
  let o ← dictOf x
  opt (getK o k)
section
variable {X : Cx} {o i : Expr} {pos : Pos}
theorem de_dget {mo : M Rv} {mk : M D} (hu : X.A.units + 1 < cLine) (ho : RE X mo o) (hi : DE X mk i) (hs : NoSl i := by intro _ _; rfl) : DE X (dgetM mo mk) (.Subscript o i pos) := pe_weak (pe_dget hu ho hi hs) fun σ H Q ⟨F, A, sl, d, sl', r, hm, q⟩ => by
  obtain ⟨x, sl1, h1, hm1⟩ := bind_some hm
  obtain ⟨k, sl2, h2, hm2⟩ := bind_some hm1
  obtain ⟨oo, sl3, h3, hm3⟩ := bind_some hm2
  obtain ⟨h4, rfl⟩ := opt_some hm3
  refine ⟨F, A, sl, x, sl1, r, h1, fun v F1 A1 H1 r1 x1 ok1 _ => ⟨F1, A1, sl1, k, sl2, r1, h2, fun u F2 A2 H2 r2 x2 p2 => ?_⟩⟩
  obtain ⟨rfl, a, rfl, ok⟩ := dictOf_ok r2 (ok1.ext r1 x2) h3
  cases oo with
  | lst _ => cases h4
  | dt _ => cases h4
  | dk kvs =>
    obtain ⟨kk, e1, e2⟩ := Option.bind_eq_some_iff.mp h4
    obtain ⟨ws, e3, e4, e5⟩ := ok
    obtain rfl := keyD_rp p2 e1
    rcases (KvR.of e4 e5).get kk with ⟨z, _⟩ | ⟨w, d', z1, z2, z3⟩
    · rw [e2] at z; cases z
    · rw [e2] at z1; cases z1
      exact ⟨a, w, rfl, .inl ⟨ws, kk, .inl e3, rfl, z2.symm⟩, q w F2 A2 H2 r2 (x1.trans x2) z3⟩
end
end RL
namespace RL
open PySem PySem.Spec PyProof.Rows L2

/-! ### defs of the module, constants of the module -/
structure Cl (P : Program) (w : World) (K : PySem.W.Frag) (mg : Str → Option Value) (base : Heap) (x : Str) (st : Stmt) (k : Nat) (ps : List Str) (sp : Sp) : Prop where
  ex : ∃ f fd, Fun K x x st f fd ∧ mg x = some (.ref f) ∧ FnG P w K mg base k f fd ps sp
def Df (K : PySem.W.Frag) (mg : Str → Option Value) (x : Str) (st : Stmt) : Prop := ∃ f fd, Fun K x x st f fd ∧ mg x = some (.ref f)
def GC (K : PySem.W.Frag) (mg : Str → Option Value) (x : Str) (d : D) : Prop := ∃ v u, mg x = some u ∧ RelV v u ∧ WrD K v d
theorem room_hu {k : Nat} {A : Around} (r : Room k A) : A.units + 65 < cLine := by have := r.un; omega
theorem room_hu1 {k : Nat} {A : Around} (r : Room k A) : A.units + 1 < cLine := by have := r.un; omega
section
variable {P : Program} {w : World} {K : PySem.W.Frag} {mg : Str → Option Value} {base : Heap} {x : Str} {st : Stmt} {N ps : List Str} {k : Nat}
theorem cl_data {m : S} (h : Df K mg x st) (Sc : FnScope N ps (defScope st))
    (body : ∀ (f : Addr) (cdv : Value) (A : Around) (outer : List Env) (s : Shared) (H : Hp), A.guards = some [] → Room k (A.deeper (envOfC x (defScope st) s.heap.objs.size f cdv)) → BS (bodyX P w K mg base N x st f cdv A outer s H) m (defBody st)) :
    Cl P w K mg base x st (k + 1) ps (spG K ps.length (runF ps.length N.length m)) := by
  obtain ⟨f, fd, F, hm⟩ := h
  exact ⟨f, fd, F, hm, fn_data F Sc (body f)⟩
theorem cl_lent {m : S} (h : Df K mg x st) (Sc : FnScope N ps (defScope st))
    (body : ∀ (f : Addr) (cdv : Value) (A : Around) (outer : List Env) (s : Shared) (H : Hp), A.guards = some [] → Room k (A.deeper (envOfC x (defScope st) s.heap.objs.size f cdv)) → BS (bodyX P w K mg base N x st f cdv A outer s H) m (defBody st)) :
    Cl P w K mg base x st (k + 1) ps (spI K ps.length (runI ps.length N.length m)) := by
  obtain ⟨f, fd, F, hm⟩ := h
  exact ⟨f, fd, F, hm, fn_lent F Sc (body f)⟩
theorem Cl.mono {sp : Sp} {j : Nat} (c : Cl P w K mg base x st j ps sp) (h : j ≤ k) : Cl P w K mg base x st k ps sp := by
  obtain ⟨f, fd, F, hm, Fn⟩ := c.ex
  exact ⟨f, fd, F, hm, Fn.mono h⟩
/-- every parameter by its place -/
def Pos1 (st : Stmt) (x : Str) (ps : List Str) : Prop := ∀ (kV doc pm : Value) (an : Option Addr) (cdv ct : Value) (us : List Value), us.length = ps.length → bindArgs (PySem.W.fnOf x x (defArgs st) (defBody st) (defScope st) .none kV doc pm an cdv ct) ⟨us, []⟩ = pure (ps.zip us)
def Kw1 (st : Stmt) (x : Str) (ps : List Str) (n : Nat) (ks : List Str) (is : List Nat) : Prop := ∀ (kV doc pm : Value) (an : Option Addr) (cdv ct : Value) (us ws : List Value), us.length = n → ws.length = ks.length → bindArgs (PySem.W.fnOf x x (defArgs st) (defBody st) (defScope st) .none kV doc pm an cdv ct) ⟨us, ks.zip ws⟩ = pure (ps.zip (pick is (us ++ ws)))
end
section
variable {X : Cx} {st : Stmt} {k n j nP nN nn : Nat} {ps ks : List Str} {x : Str} {p pos : Pos} {e : Expr} {es : List Expr} {kws : List Keyword} {m mk : M (List D)} {s : S} {is : List Nat}
theorem re_c {g : List D → Option Rv} (c : Cl X.prog X.w X.K X.mg X.base x st j ps (spG X.K n g)) (hn : ∀ ds r, g ds = some r → ds.length = n) (hp : Pos1 st x ps) (hgd : X.A.guards = some []) (hr : Room k X.A) (hjk : j ≤ k) (hg : Gl X x)
    (ha : AD X m (e :: es)) (hdb : (x == ("__debug__" : Str)) = false := by decide) (he : starEach (e :: es) X.env = (false, eval e X.env) :: starEach es X.env := by rfl) (hpl : (backTo pos (starEach es X.env)).any (·.1) = false := by rfl) :
    RE X (callM g m) (.Call (.Name x p) (e :: es) [] pos) := by
  obtain ⟨f, fd, F, hm, Fn⟩ := c.ex
  exact re_call (Fn.mono hjk) hn hgd hr hg hm F.kp (F.binds hp) ha hdb he hpl
theorem re_c0 {g : List D → Option Rv} (c : Cl X.prog X.w X.K X.mg X.base x st j [] (spG X.K 0 g)) (hp : Pos1 st x []) (hgd : X.A.guards = some []) (hr : Room k X.A) (hjk : j ≤ k) (hg : Gl X x)
    (hdb : (x == ("__debug__" : Str)) = false := by decide) : RE X (callM g (pure [])) (.Call (.Name x p) [] [] pos) := by
  obtain ⟨f, fd, F, hm, Fn⟩ := c.ex
  exact re_call0 (Fn.mono hjk) hgd hr hg hm F.kp (F.binds hp) hdb
theorem re_cK0 {g : List D → Option Rv} (c : Cl X.prog X.w X.K X.mg X.base x st j ps (spG X.K n g)) (hn : ∀ ds r, g ds = some r → ds.length = n) (hp : Kw1 st x ps 0 ks is) (hgd : X.A.guards = some []) (hr : Room k X.A) (hjk : j ≤ k) (hg : Gl X x)
    (hl : kws.length = ks.length) (hkw : KD X mk kws) (hml : ∀ sl ds sl', mk sl = some (ds, sl') → ds.length = ks.length)
    (hall : (backToKw pos (keywordEach kws X.env)).all (·.1.isSome) = true := by rfl) (hks : (backToKw pos (keywordEach kws X.env)).filterMap (·.1) = ks := by rfl)
    (hdb : (x == ("__debug__" : Str)) = false := by decide) (hpl : ((backTo pos (starEach [] X.env)).any (·.1) || (backToKw pos (keywordEach kws X.env)).any (·.1.isNone)) = false := by rfl) :
    RE X (callK g is (pure []) mk) (.Call (.Name x p) [] kws pos) := by
  obtain ⟨f, fd, F, hm, Fn⟩ := c.ex
  exact re_callK0 (Fn.mono hjk) hn hgd hr hg hm F.kp (kb_mk F 0 ks is hp) hl hkw hml hall hks hdb hpl
theorem re_cK {g : List D → Option Rv} (c : Cl X.prog X.w X.K X.mg X.base x st j ps (spG X.K n g)) (hn : ∀ ds r, g ds = some r → ds.length = n) (hp : Kw1 st x ps nn ks is) (hgd : X.A.guards = some []) (hr : Room k X.A) (hjk : j ≤ k) (hg : Gl X x)
    (ha : AD X m (e :: es)) (hkw : KD X mk kws) (hml : ∀ sl ds sl', mk sl = some (ds, sl') → ds.length = ks.length) (hal : ∀ sl ds sl', m sl = some (ds, sl') → ds.length = nn)
    (hall : (backToKw pos (keywordEach kws X.env)).all (·.1.isSome) = true := by rfl) (hks : (backToKw pos (keywordEach kws X.env)).filterMap (·.1) = ks := by rfl)
    (hdb : (x == ("__debug__" : Str)) = false := by decide) (he : starEach (e :: es) X.env = (false, eval e X.env) :: starEach es X.env := by rfl)
    (hpl : ((backTo pos (starEach (e :: es) X.env)).any (·.1) || (backToKw pos (keywordEach kws X.env)).any (·.1.isNone)) = false := by rfl) :
    RE X (callK g is m mk) (.Call (.Name x p) (e :: es) kws pos) := by
  obtain ⟨f, fd, F, hm, Fn⟩ := c.ex
  exact re_callK (Fn.mono hjk) hn hgd hr hg hm F.kp (kb_mk F nn ks is hp) ha hkw hml hal hall hks hdb he hpl
theorem re_cS {g : List D → Option Rv} (c : Cl X.prog X.w X.K X.mg X.base x st j ps (spG X.K n g)) (hn : ∀ ds r, g ds = some r → ds.length = n) (hp : Pos1 st x ps) (hgd : X.A.guards = some []) (hr : Room k X.A) (hjk : j ≤ k) (hg : Gl X x)
    (ha : AD X m (e :: es)) (hdb : (x == ("__debug__" : Str)) = false := by decide) (he : starEach (e :: es) X.env = (false, eval e X.env) :: starEach es X.env := by rfl) (hst : (backTo pos (starEach es X.env)).any (·.1) = true := by rfl) :
    RE X (callM g m) (.Call (.Name x p) (e :: es) [] pos) := by
  obtain ⟨f, fd, F, hm, Fn⟩ := c.ex
  exact re_callS (Fn.mono hjk) hn hgd hr hg hm F.kp (F.binds hp) ha hdb he hst
theorem re_l {i : Nat} {g : OO → List D → Option (Rv × OO)} (c : Cl X.prog X.w X.K X.mg X.base x st j ps (spI X.K n g)) (hn : ∀ o ds r, g o ds = some r → ds.length + 1 = n) (hp : Pos1 st x ps) (hgd : X.A.guards = some []) (hr : Room k X.A) (hjk : j ≤ k) (hg : Gl X x)
    (hv : PE X e (tVar i)) (ha : AD X m es) (hdb : (x == ("__debug__" : Str)) = false := by decide) (he : starEach (e :: es) X.env = (false, eval e X.env) :: starEach es X.env := by rfl) (hpl : (backTo pos (starEach es X.env)).any (·.1) = false := by rfl) :
    RE X (callL i g m) (.Call (.Name x p) (e :: es) [] pos) := by
  obtain ⟨f, fd, F, hm, Fn⟩ := c.ex
  exact re_lend (Fn.mono hjk) hn hgd hr hg hm F.kp (F.binds hp) hv ha hdb he hpl
/-- a target's name -/
theorem gn (i : Nat) {x : Str} (hN : X.N.Nodup) (hi : X.N[i]? = some x := by rfl) (hx : Loc X.env.scope x := by first | exact Or.inl rfl | exact Or.inr rfl) (hf : X.fn x = true ∨ X.env.scope.names.lookup x = some .local := by first | exact .inl rfl | exact .inr rfl) : PG X (.Name x pos) (gName i) := pg_name hN hi hx hf
/-- name = e -/
theorem ss_set {i : Nat} {pos' : Pos} {me : M Rv} (hN : X.N.Nodup) (he : RE X me e) (hi : X.N[i]? = some x := by rfl) (hx : Loc X.env.scope x := by first | exact Or.inl rfl | exact Or.inr rfl) (hs : swapsWith e (some (.Name x pos')) pos.line X.env = pure false := by rfl) (hf : X.fn x = true ∨ X.env.scope.names.lookup x = some .local := by first | exact .inl rfl | exact .inr rfl) :
    SS X (asg i me) (.Assign [.Name x pos'] e pos) := ss_asg (ps_set hN hi hx he hs hf)
theorem de_gc {d : D} (h : GC X.K X.mg x d) (hg : Gl X x) (hd : (x == ("__debug__" : Str)) = false := by decide) : DE X (pure d) (.Name x pos) := by
  obtain ⟨v, u, hm, r, wr⟩ := h
  exact de_const (pe_glob hg hm r hd) wr
end

/-! ### what the top has written -/
def kTup (K : PySem.W.Frag) (a : Addr) : Option (List Value) := match K.lookup a with
  | some ⟨.type "tuple", _, .seq its _, _⟩ => if its.size ≤ sizeLine then some its.toList else none
  | _ => none
theorem kTup_ok {K : PySem.W.Frag} {a : Addr} {us : List Value} (h : kTup K a = some us) : ∃ (o : Obj) (its : Array Value) (n : Nat), K.lookup a = some o ∧ o.cls = .type "tuple" ∧ o.data = .seq its n ∧ its.size ≤ sizeLine ∧ its.toList = us := by
  unfold kTup at h
  split at h
  · rename_i dd its n sl e
    split at h
    · rename_i hs
      cases h
      exact ⟨_, its, n, e, rfl, rfl, hs, rfl⟩
    · cases h
  · cases h
def rdL (f : Value → Option D) : List Value → Option (List D)
  | [] => some []
  | u :: us => (f u).bind fun d => (rdL f us).map (d :: ·)
def rdV (K : PySem.W.Frag) : Nat → Value → Option D
  | 0, _ => none
  | n + 1, u => match u with
    | .none => some .none
    | .bool b => some (.bool b)
    | .int i _ => some (.int i)
    | .str x _ => some (.str x)
    | .ref a => (kTup K a).bind fun us => (rdL (rdV K n) us).map .tuple
    | _ => none
theorem rdL_ok {K : PySem.W.Frag} {f : Value → Option D} (h : ∀ u d, f u = some d → ∃ v, RelV v u ∧ WrD K v d) : ∀ {us : List Value} {ds : List D}, rdL f us = some ds → ∃ vs, Vals vs us ∧ WrAll K vs ds
  | [], ds, e => by cases e; exact ⟨[], .nil, .nil⟩
  | u :: us, ds, e => by
    obtain ⟨d, e1, e2⟩ := Option.bind_eq_some_iff.mp e
    obtain ⟨r, e3, rfl⟩ := Option.map_eq_some_iff.mp e2
    obtain ⟨v, r1, w1⟩ := h u d e1
    obtain ⟨vs, r2, w2⟩ := rdL_ok h e3
    exact ⟨v :: vs, .cons r1 r2, .cons w1 w2⟩
theorem rdV_ok {K : PySem.W.Frag} : ∀ (n : Nat) (u : Value) (d : D), rdV K n u = some d → ∃ v, RelV v u ∧ WrD K v d
  | 0, _, _, e => by cases e
  | n + 1, u, d, e => by
    unfold rdV at e
    split at e
    · cases e; exact ⟨.non, rfl, .non⟩
    · cases e; exact ⟨.bl _, rfl, .bl _⟩
    · cases e; exact ⟨.int _, ⟨_, rfl⟩, .int _⟩
    · cases e; exact ⟨.str _, ⟨_, rfl⟩, .str _⟩
    · rename_i a
      obtain ⟨us, e1, e2⟩ := Option.bind_eq_some_iff.mp e
      obtain ⟨ds, e3, rfl⟩ := Option.map_eq_some_iff.mp e2
      obtain ⟨o, its, k, q1, q2, q3, q4, rfl⟩ := kTup_ok e1
      obtain ⟨vs, r, wr⟩ := rdL_ok (rdV_ok n) e3
      exact ⟨.ref a, rfl, .tup ⟨o, its, k, q1, q2, q3, q4, r⟩ wr⟩
    · cases e
theorem gc_mk {K : PySem.W.Frag} {h : Heap} {mg : Str → Option Value} {x : Str} {u : Value} {d : D} (X : K.In h) (G : h.Ns mainGlobals mg) (a : PySem.W.nsIn K mainGlobals x = some (some u)) (t : rdV K 8 u = some d) : GC K mg x d := by
  obtain ⟨v, r, wr⟩ := rdV_ok 8 u d t
  exact ⟨v, u, PySem.W.mg_of X G a, r, wr⟩
theorem df_mk {K : PySem.W.Frag} {h : Heap} {mg : Str → Option Value} {x : Str} {st : Stmt} {f : Addr} {od an : Option Addr} {sl : Array (Option Value)} {oc kV dc pm cd ct : Value} (X : K.In h) (G : h.Ns mainGlobals mg) (a : PySem.W.nsIn K mainGlobals x = some (some (.ref f)))
    (l : K.lookup f = some ⟨oc, od, .func (PySem.W.fnOf x x (defArgs st) (defBody st) (defScope st) .none kV dc pm an cd ct), sl⟩) (c : PySem.W.codeIn K cd x = true) (k : PySem.W.keepIn K (.ref f) = true) : Df K mg x st := ⟨f, _, fun_mk l c k, PySem.W.mg_of X G a⟩

/-! ### blocks within blocks -/
theorem blk1 {N : List Str} {sc scope : Scope} {own : List (Str × Nat)} (h : blkC N sc scope own = true) : BlkOk N sc scope own := blkOk_by h
theorem blk2 {N : List Str} {scope1 scope : Scope} {own : List (Str × Nat)} {cl : List (Str × Addr)} {C : Addr} {env : Env} (sc0 : Scope) (h0 : env.scope = sc0) (h : blkC N (relS scope1 sc0) scope own = true) : BlkOk N (compEnvC scope1 cl C env).scope scope own := by
  subst h0
  exact blkOk_by h
theorem blk3 {N : List Str} {scope1 scope2 scope : Scope} {own : List (Str × Nat)} {cl cl' : List (Str × Addr)} {C C' : Addr} {env : Env} (sc0 : Scope) (h0 : env.scope = sc0) (h : blkC N (relS scope2 (relS scope1 sc0)) scope own = true) : BlkOk N (compEnvC scope2 cl' C' (compEnvC scope1 cl C env)).scope scope own := by
  subst h0
  exact blkOk_by h

/-! ### the law's end -/
def scriptD (ns : List Int) : D := .dict [(.none, .list (ns.map PyData.int))]
/-- the promise, at the heap behind the top -/
theorem law_go {P : Program} {w : World} {K : PySem.W.Frag} {mg mb : Str → Option Value} {k : Nat} {fa a : Addr} {fd : FuncData} {x : Str} {g : List D → Option Rv} {z : Shared} {vs : List Value} {ns : List Int}
    (hK : K.In z.heap) (hM : z.heap.Ns mainGlobals mg) (hB : z.heap.Ns builtinsNs mb) (hBB : ∀ x : Str, x ≠ "__name__" → mb x = bootBuiltins x) (hL : z.heap.NoLimit) (hG : z.gens = #[])
    (ho : z.heap.get? a = some { cls := .type "list", data := .seq vs.toArray }) (hints : IntsAre vs ns) (hlen : ns.length ≤ sizeLine) (hroom : Room k callerA)
    (Fn : ∀ base : Heap, K.In base → base.Ns mainGlobals mg → FnG P w K mg base k fa fd [x] (spG K 1 g)) (hb : ∀ (s : Shared) (u : Value), BindsTo s fd ⟨[u], []⟩ [(x, u)]) (law : g [scriptD ns] = some (.d (.bool true))) :
    codeAny (model P w) callerA (.call (.ref fa) ⟨[.ref a], []⟩) (fun r s' => r = .ok (.ret (.bool true)) ∧ OldK z.heap s'.heap ∧ s'.os = z.os ∧ AllBare s'.gens) z := by
  have hv := vals_ints hints
  have hvl := hints.length
  have main : ∀ H : Hp, Only H → FO K (fun b => ∃ o, H b = some o) H a (ns.map V.int) → HOk P w H z.heap → (∀ b, H b ≠ none → b = a) → (H a ≠ none → K.lookup a = none) →
      codeAny (model P w) callerA (.call (.ref fa) ⟨[.ref a], []⟩) (fun r s' => r = .ok (.ret (.bool true)) ∧ OldK z.heap s'.heap ∧ s'.os = z.os ∧ AllBare s'.gens) z := by
    intro H only hS hok one un
    have un0 : ∀ {b : Addr} {o : Obj}, K.lookup b = some o → H b = none := fun {b o} e => by
      cases q : H b with
      | none => rfl
      | some u =>
        have := one b (by rw [q]; simp)
        subst this
        rw [un (by rw [q]; simp)] at e; cases e
    have nd : ∀ {b : Addr} {o : Obj} {es : Array DictEntry} {ep : Nat}, z.heap.get? b = some o → o.data = .dict es ep → H b = none := fun {b o es ep} e d => by
      cases q : H b with
      | none => rfl
      | some u =>
        have := one b (by rw [q]; simp)
        subst this
        rw [ho] at e; cases e; cases d
    have ns' : ∀ {b : Addr} {m : Str → Option Value}, z.heap.Ns b m → (hidT z.heap H).Ns b m := fun {b m} ⟨o, es, ep, e, d, r⟩ => ⟨o, es, ep, hidT_get e (nd e d), d, r⟩
    have hKb : K.In (hidT z.heap H) := fun b o e => hidT_get (hK b o e) (un0 e)
    have hMod : Mod K mg (hidT z.heap H) := ⟨hKb, ns' hM, ⟨mb, ns' hB, hBB⟩, let ⟨mc, h1, h2⟩ := hL; ⟨mc, ns' h1, h2⟩⟩
    have env : Env0 P w K mg (hidT z.heap H) callerA [] z H := ⟨rfl, hMod, fun b o e => of_hidT e, Nat.le_of_eq (hidT_size _ _), trivial, (fun b hb => by cases hb), hok, .of_eq hG⟩
    have sp : spG K 1 g [.ref a] H (fun v _ => v = .bl true) E0 := ⟨rfl, fun b => ∃ o, H b = some o, [scriptD ns], _, fun b h => h, .cons (.ro hS (rp_ints ns)) .nil, law, fun v F' H' gr ok => Rp.eqBl ok⟩
    refine codeAny_mono ((Fn _ hKb (ns' hM)).run callerA [] z H ⟨[.ref a], []⟩ [.ref a] [.ref a] _ rfl hroom env (hb z (.ref a)) (.cons rfl .nil) sp) fun r s' h => ?_
    cases r with
    | error e => exact False.elim h
    | ok fl =>
      cases fl with
      | next => exact False.elim h
      | brk => exact False.elim h
      | cont => exact False.elim h
      | ret u =>
        obtain ⟨v, H', os, bare, unn, hok', rv, rfl⟩ := h
        obtain rfl : u = Value.bool true := rv
        refine ⟨rfl, OldK.of_keep fun b o e => ?_, os, bare⟩
        cases q : H b with
        | none => exact unn.keep b o e q (by intro m; cases m) (by simp)
        | some u =>
          rcases only b with n | ⟨ob, xs, n⟩
          · rw [q] at n; cases n
          · obtain ⟨e1, _⟩ := hok b _ n
            obtain ⟨e2, _⟩ := hok' b _ (unn.frzs b ob _ n)
            rw [e] at e1; cases e1
            exact e2
  cases hk : K.lookup a with
  | some o =>
    have e := hK a o hk
    rw [ho] at e
    cases e
    exact main (fun _ => none) (fun _ => .inl rfl) (.inr ⟨_, vs.toArray, _, hk, rfl, rfl, rfl, by rw [List.size_toArray, hvl]; exact hlen, by simpa using hv⟩) (fun b u m => by cases (show (none : Option HO) = some u from m)) (fun b m => absurd rfl m) fun m => absurd rfl m
  | none =>
    let H1 : Hp := fun b => if b = a then some (.frz { cls := .type "list", data := .seq vs.toArray } (.lst (ns.map V.int))) else none
    have at1 : H1 a = some (.frz { cls := .type "list", data := .seq vs.toArray } (.lst (ns.map V.int))) := if_pos rfl
    have no1 : ∀ {b}, b ≠ a → H1 b = none := fun h => if_neg h
    refine main H1 (fun b => ?_) (.inl ⟨⟨_, at1⟩, _, at1⟩) (fun b u m => ?_) (fun b m => ?_) fun _ => hk
    · by_cases e : b = a
      · subst e; exact .inr ⟨_, _, at1⟩
      · exact .inl (no1 e)
    · by_cases e : b = a
      · subst e
        rw [at1] at m; cases m
        exact ⟨ho, by rw [List.length_map]; exact hlen, vs, _, hv, ho⟩
      · rw [no1 e] at m; cases m
    · by_cases e : b = a
      · exact e
      · exact absurd (no1 e) m
/-- what k_head leaves -/
theorem walkG {l : PySem.W.OpenLaw} {n k : Nat} {q : Program} {loose : List Str} {XP : (Str → Option Value) → Heap → Prop} {YP : World → Heap → Prop} {d : DefRec} {KK : Params → PySem.W.Frag} {x : Str} (g : List D → Option Rv)
    (hn : l.most = some n) (hn2 : n ≤ sizeLine) (hdf : d.params.defaults = []) (hr : Room k callerA) (hY : ∀ (w : World) (h : Heap), YP w h → (KK w.params).In h)
    (F : ∀ (w : World) (mg : Str → Option Value) (fa : Addr) (h : Heap), (KK w.params).In h → h.Ns mainGlobals mg → mg d.name = some (.ref fa) →
      ∃ fd : FuncData, (∀ (s : Shared) (u : Value), BindsTo s fd ⟨[u], []⟩ [(x, u)]) ∧ ∀ base : Heap, (KK w.params).In base → base.Ns mainGlobals mg → FnG l.prog w (KK w.params) mg base k fa fd [x] (spG (KK w.params) 1 g))
    (law : ∀ ns : List Int, ns.length ≤ n → g [scriptD ns] = some (.d (.bool true))) : PySem.W.WalkO q loose XP YP l.row.toRowW d [] (fun f vs => PySem.call f vs) := by
  refine Att.attach_call hn hdf fun w s₀ z mg mb fa o pm cd doc a vs ns G Y ho hd hcd hmg hobj hints hlen hg => ?_
  obtain ⟨fd, hb, hF⟩ := F w mg fa _ (hY w _ Y) G.T.g hmg
  exact law_go (hY w _ Y) G.T.g G.T.b G.T.builtins G.T.nolimit hg hobj hints (Nat.le_trans hlen hn2) hr hF hb (law ns hlen)
/-- the law's own def -/
theorem law_fn {P : Program} {w : World} {K : PySem.W.Frag} {mg : Str → Option Value} {fa : Addr} {st : Stmt} {x y : Str} {k : Nat} {sp : Sp} (hm : mg x = some (.ref fa)) (d : Df K mg x st) (h : ∀ base : Heap, Cl P w K mg base x st k [y] sp) (hp : Pos1 st x [y]) :
    ∃ fd : FuncData, (∀ (s : Shared) (u : Value), BindsTo s fd ⟨[u], []⟩ [(y, u)]) ∧ ∀ base : Heap, K.In base → base.Ns mainGlobals mg → FnG P w K mg base k fa fd [y] sp := by
  obtain ⟨f, fd, F, hf⟩ := d
  obtain rfl : fa = f := by
    have := hm.symm.trans hf
    cases this; rfl
  refine ⟨fd, fun s u => ?_, fun base _ _ => ?_⟩
  · obtain ⟨oc, od, kV, doc, pm, an, cdv, ct, osl, rfl, lk, hcd⟩ := F.ex
    exact .of_eq (hp kV doc pm an cdv ct [u] rfl)
  · obtain ⟨f', fd', F', hf', Fn⟩ := (h base).ex
    obtain rfl : fa = f' := by
      have := hm.symm.trans hf'
      cases this; rfl
    obtain ⟨oc, od, kV, doc, pm, an, cdv, ct, osl, e1, lk, hcd⟩ := F.ex
    obtain ⟨oc', od', kV', doc', pm', an', cdv', ct', osl', e2, lk', hcd'⟩ := F'.ex
    have e : fd = fd' := by
      have := lk.symm.trans lk'
      cases this; rfl
    rw [e]
    exact Fn
end RL
namespace RL
open PySem

/-! ### plain runs of programs over slots -/
def Ok {α : Type} (m : M α) (sl : List Sl) (Q : α → List Sl → Prop) : Prop := ∃ a s, m sl = some (a, s) ∧ Q a s
def OkS (m : S) (sl : List Sl) (Q : Fl → List Sl → Prop) : Prop := ∃ f s, m sl = some (f, s) ∧ Q f s
def OkG (g : List Sl → Option (List Sl)) (sl : List Sl) (Q : List Sl → Prop) : Prop := ∃ s, g sl = some s ∧ Q s
/-- an operation of data tells something -/
def OkO {α : Type} (o : Option α) (Q : α → Prop) : Prop := ∃ r, o = some r ∧ Q r
section
variable {α β : Type} {sl : List Sl} {i : Nat} {d e : D}
theorem OkO.mk {o : Option α} {r : α} {Q : α → Prop} (h : o = some r) (q : Q r) : OkO o Q := ⟨r, h, q⟩
theorem ok_mono {m : M α} {Q Q' : α → List Sl → Prop} (h : Ok m sl Q) (k : ∀ a s, Q a s → Q' a s) : Ok m sl Q' := let ⟨a, s, e, q⟩ := h; ⟨a, s, e, k a s q⟩
theorem oks_mono {m : S} {Q Q' : Fl → List Sl → Prop} (h : OkS m sl Q) (k : ∀ a s, Q a s → Q' a s) : OkS m sl Q' := let ⟨a, s, e, q⟩ := h; ⟨a, s, e, k a s q⟩
theorem ok_bind {m : M α} {f : α → M β} {Q : β → List Sl → Prop} (h : Ok m sl fun a s => Ok (f a) s Q) : Ok (m >>= f) sl Q := by
  obtain ⟨a, s, e, b, s2, e2, q⟩ := h
  exact ⟨b, s2, (bind_run e).trans e2, q⟩
theorem ok_pure {a : α} {Q : α → List Sl → Prop} (h : Q a sl) : Ok (pure a : M α) sl Q := ⟨a, sl, rfl, h⟩
theorem ok_opt {o : Option α} {Q : α → List Sl → Prop} (h : OkO o fun a => Q a sl) : Ok (opt o) sl Q := by
  obtain ⟨a, e, q⟩ := h
  exact ⟨a, sl, by unfold opt; rw [e]; rfl, q⟩
/-! names -/
theorem ok_getv {Q : Rv → List Sl → Prop} (h : sl[i]? = some (.val d)) (q : Q (.d d) sl) : Ok (getv i) sl Q := ⟨_, _, by unfold getv; rw [h], q⟩
theorem ok_geto {Q : Rv → List Sl → Prop} {io lk : Bool} {o : OO} (h : sl[i]? = some (.own io lk o)) (q : Q (.sl i) sl) : Ok (getv i) sl Q := ⟨_, _, by unfold getv; rw [h], q⟩
/-! looking -/
theorem ok_peekd {Q : D → List Sl → Prop} (q : Q d sl) : Ok (peek (.d d)) sl Q := ⟨_, _, rfl, q⟩
theorem ok_peekf {Q : D → List Sl → Prop} {ds : List D} (q : Q (.list ds) sl) : Ok (peek (.fr (.lst ds))) sl Q := ⟨_, _, rfl, q⟩
theorem ok_peeks {Q : D → List Sl → Prop} {ds : List D} {io lk : Bool} (h : sl[i]? = some (.own io lk (.lst ds))) (q : Q (.list ds) sl) : Ok (peek (.sl i)) sl Q := ⟨_, _, by unfold peek; simp only [h], q⟩
theorem ok_taked {Q : D → List Sl → Prop} (q : Q d sl) : Ok (take (.d d)) sl Q := ⟨_, _, rfl, q⟩
theorem ok_takef {Q : D → List Sl → Prop} {ds : List D} (q : Q (.list ds) sl) : Ok (take (.fr (.lst ds))) sl Q := ⟨_, _, rfl, q⟩
theorem ok_takes {Q : D → List Sl → Prop} {ds : List D} (h : sl[i]? = some (.own false false (.lst ds))) (q : Q (.list ds) (sl.set i (.val (.list ds)))) : Ok (take (.sl i)) sl Q := ⟨_, _, by unfold take; simp only [h], q⟩
/-! operations -/
theorem ok_two {ma mb : M Rv} {g : D → D → Option Rv} {Q : Rv → List Sl → Prop} (h : Ok ma sl fun x s => Ok mb s fun y s => Ok (peek x) s fun p s => Ok (peek y) s fun q s => OkO (g p q) fun r => Q r s) : Ok (two ma mb g) sl Q := by
  obtain ⟨x, s1, e1, y, s2, e2, p, s3, e3, q, s4, e4, r, e5, k⟩ := h
  refine ⟨r, s4, ?_, k⟩
  unfold two
  rw [bind_run e1, bind_run e2, bind_run e3, bind_run e4]
  unfold opt; rw [e5]; rfl
theorem ok_twoB {ma mb : M Rv} {g : D → D → Option Bool} {Q : Bool → List Sl → Prop} (h : Ok ma sl fun x s => Ok mb s fun y s => Ok (peek x) s fun p s => Ok (peek y) s fun q s => OkO (g p q) fun r => Q r s) : Ok (twoB ma mb g) sl Q := by
  obtain ⟨x, s1, e1, y, s2, e2, p, s3, e3, q, s4, e4, r, e5, k⟩ := h
  refine ⟨r, s4, ?_, k⟩
  unfold twoB
  rw [bind_run e1, bind_run e2, bind_run e3, bind_run e4]
  unfold opt; rw [e5]; rfl
theorem ok_twoD {ma mb : M Rv} {g : D → D → Option Bool} {Q : D → List Sl → Prop} (h : Ok (twoB ma mb g) sl fun b s => Q (.bool b) s) : Ok (twoD ma mb g) sl Q := ok_bind (ok_mono h fun _ _ q => ok_pure q)
theorem ok_item {ma mb : M Rv} {Q : D → List Sl → Prop} (h : Ok ma sl fun x s => Ok mb s fun y s => Ok (peek x) s fun p s => Ok (peek y) s fun q s => OkO (itemD p q) fun r => Q r s) : Ok (itemM ma mb) sl Q := by
  obtain ⟨x, s1, e1, y, s2, e2, p, s3, e3, q, s4, e4, r, e5, k⟩ := h
  refine ⟨r, s4, ?_, k⟩
  unfold itemM
  rw [bind_run e1, bind_run e2, bind_run e3, bind_run e4]
  unfold opt; rw [e5]; rfl
theorem ok_cons {m : M α} {ms : M (List α)} {Q : List α → List Sl → Prop} (h : Ok m sl fun a s => Ok ms s fun as s => Q (a :: as) s) : Ok (consM m ms) sl Q := ok_bind (ok_mono h fun _ _ q => ok_bind (ok_mono q fun _ _ q => ok_pure q))
theorem ok_star {m : M D} {ms : M (List D)} {Q : List D → List Sl → Prop} (h : Ok m sl fun a s => OkO (seqOf a) fun xs => Ok ms s fun as s => Q (xs ++ as) s) : Ok (starM m ms) sl Q := ok_bind (ok_mono h fun _ _ ⟨xs, e, q⟩ => ok_bind (ok_opt ⟨xs, e, ok_bind (ok_mono q fun _ _ q => ok_pure q)⟩))
theorem ok_tup {m : M (List D)} {Q : D → List Sl → Prop} (h : Ok m sl fun ds s => ds.length ≤ sizeLine ∧ Q (.tuple ds) s) : Ok (tupM m) sl Q := ok_bind (ok_mono h fun ds _ ⟨l, q⟩ => ok_opt ⟨_, by unfold tupD; rw [if_pos l], q⟩)
theorem ok_lst {m : M (List D)} {Q : Rv → List Sl → Prop} (h : Ok m sl fun ds s => ds.length ≤ sizeLine ∧ Q (.fr (.lst ds)) s) : Ok (lstM m) sl Q := ok_bind (ok_mono h fun ds _ ⟨l, q⟩ => ok_opt ⟨_, by unfold lstR; rw [if_pos l], q⟩)
theorem ok_peekAll_nil {Q : List D → List Sl → Prop} (q : Q [] sl) : Ok (peekAll []) sl Q := ⟨_, _, rfl, q⟩
theorem ok_peekAll_cons {r : Rv} {rs : List Rv} {Q : List D → List Sl → Prop} (h : Ok (peek r) sl fun d s => Ok (peekAll rs) s fun ds s => Q (d :: ds) s) : Ok (peekAll (r :: rs)) sl Q := ok_bind (ok_mono h fun _ _ q => ok_bind (ok_mono q fun _ _ q => ok_pure q))
theorem ok_blt {g : List D → Option Rv} {m : M (List Rv)} {Q : Rv → List Sl → Prop} (h : Ok m sl fun rs s => Ok (peekAll rs) s fun ds s => OkO (g ds) fun r => Q r s) : Ok (bltM g m) sl Q := ok_bind (ok_mono h fun _ _ q => ok_bind (ok_mono q fun _ _ q => ok_opt q))
theorem ok_call {g : List D → Option Rv} {m : M (List D)} {Q : Rv → List Sl → Prop} (h : Ok m sl fun ds s => OkO (g ds) fun r => Q r s) : Ok (callM g m) sl Q := ok_bind (ok_mono h fun _ _ q => ok_opt q)
theorem ok_callK {g : List D → Option Rv} {is : List Nat} {m n : M (List D)} {Q : Rv → List Sl → Prop} (h : Ok m sl fun ds s => Ok n s fun es s => OkO (g (pick is (ds ++ es))) fun r => Q r s) : Ok (callK g is m n) sl Q := ok_bind (ok_mono h fun _ _ q => ok_bind (ok_mono q fun _ _ q => ok_opt q))
theorem ok_callL {g : OO → List D → Option (Rv × OO)} {m : M (List D)} {Q : Rv → List Sl → Prop} {io lk : Bool} {o : OO} (h0 : sl[i]? = some (.own io lk o)) (h : Ok m sl fun ds s => ∃ io o, s[i]? = some (.own io false o) ∧ OkO (g o ds) fun r => Q r.1 (s.set i (.own io false r.2))) : Ok (callL i g m) sl Q := by
  obtain ⟨ds, s, e1, io2, o2, e2, r, e3, q⟩ := h
  refine ⟨r.1, _, ?_, q⟩
  unfold callL
  simp only [h0, e1, e2, e3]
  rfl
theorem ok_val {m : M D} {Q : Bool → List Sl → Prop} (h : Ok m sl fun d s => OkO (blD d) fun b => Q b s) : Ok (valB m) sl Q := ok_bind (ok_mono h fun _ _ q => ok_opt q)
theorem ok_not {m : M Bool} {Q : Bool → List Sl → Prop} (h : Ok m sl fun b s => Q (!b) s) : Ok (notB m) sl Q := ok_bind (ok_mono h fun _ _ q => ok_pure q)
theorem ok_and {a b : M Bool} {Q : Bool → List Sl → Prop} (h : Ok a sl fun t s => (t = true → Ok b s Q) ∧ (t = false → Q false s)) : Ok (andB a b) sl Q := ok_bind (ok_mono h fun t s ⟨q1, q2⟩ => by
  cases t with
  | true => rw [if_pos rfl]; exact q1 rfl
  | false => rw [if_neg Bool.false_ne_true]; exact ok_pure (q2 rfl))
theorem ok_or {a b : M Bool} {Q : Bool → List Sl → Prop} (h : Ok a sl fun t s => (t = true → Q true s) ∧ (t = false → Ok b s Q)) : Ok (orB a b) sl Q := ok_bind (ok_mono h fun t s ⟨q1, q2⟩ => by
  cases t with
  | true => rw [if_pos rfl]; exact ok_pure (q1 rfl)
  | false => rw [if_neg Bool.false_ne_true]; exact q2 rfl)
theorem ok_andD {a b : M D} {Q : D → List Sl → Prop} (h : Ok a sl fun x s => OkO (blD x) fun t => (t = true → Ok b s Q) ∧ (t = false → Q (.bool false) s)) : Ok (andD a b) sl Q := ok_bind (ok_mono h fun x s ⟨t, e, q1, q2⟩ => ok_bind (ok_opt ⟨t, e, by
  cases t with
  | true => rw [if_pos rfl]; exact q1 rfl
  | false => rw [if_neg Bool.false_ne_true]; exact ok_pure (q2 rfl)⟩))
theorem ok_orD {a b : M D} {Q : D → List Sl → Prop} (h : Ok a sl fun x s => OkO (blD x) fun t => (t = true → Q (.bool true) s) ∧ (t = false → Ok b s Q)) : Ok (orD a b) sl Q := ok_bind (ok_mono h fun x s ⟨t, e, q1, q2⟩ => ok_bind (ok_opt ⟨t, e, by
  cases t with
  | true => rw [if_pos rfl]; exact ok_pure (q1 rfl)
  | false => rw [if_neg Bool.false_ne_true]; exact q2 rfl⟩))
theorem ok_notD {a : M D} {Q : D → List Sl → Prop} (h : Ok a sl fun x s => OkO (blD x) fun t => Q (.bool (!t)) s) : Ok (notD a) sl Q := ok_bind (ok_mono h fun x s ⟨t, e, q⟩ => ok_bind (ok_opt ⟨t, e, ok_pure q⟩))
theorem ok_ite {c : M Bool} {a b : M α} {Q : α → List Sl → Prop} (h : Ok c sl fun t s => (t = true → Ok a s Q) ∧ (t = false → Ok b s Q)) : Ok (iteM c a b) sl Q := ok_bind (ok_mono h fun t s ⟨q1, q2⟩ => by
  cases t with
  | true => rw [if_pos rfl]; exact q1 rfl
  | false => rw [if_neg Bool.false_ne_true]; exact q2 rfl)
theorem ok_isi {T : String} {m : M Rv} {Q : D → List Sl → Prop} (h : Ok m sl fun x s => Ok (peek x) s fun d s => OkO (isiF T d) fun b => Q (.bool b) s) : Ok (isiM T m) sl Q := ok_bind (ok_mono h fun _ _ q => ok_bind (ok_mono q fun _ _ ⟨b, e, q⟩ => ok_bind (ok_opt ⟨b, e, ok_pure q⟩)))
theorem ok_chain {ma mb mc : M D} {g g' : D → D → Option Bool} {Q : D → List Sl → Prop} (h : Ok ma sl fun x s => Ok mb s fun y s => OkO (g x y) fun b => (b = true → Ok mc s fun z s => OkO (g' y z) fun b => Q (.bool b) s) ∧ (b = false → Q (.bool false) s)) : Ok (chainM ma mb mc g g') sl Q :=
  ok_bind (ok_mono h fun x _ q => ok_bind (ok_mono q fun y s ⟨b, e, q1, q2⟩ => ok_bind (ok_opt ⟨b, e, by
    cases b with
    | true => rw [if_pos rfl]; exact ok_bind (ok_mono (q1 rfl) fun z _ ⟨b2, e2, q3⟩ => ok_bind (ok_opt ⟨b2, e2, ok_pure q3⟩))
    | false => rw [if_neg Bool.false_ne_true]; exact ok_pure (q2 rfl)⟩)))
theorem ok_neg {m : M D} {Q : D → List Sl → Prop} (h : Ok m sl fun d s => ∃ i, d = .int i ∧ Q (.int (-i)) s) : Ok (negM m) sl Q := ok_bind (ok_mono h fun d s ⟨i, e, q⟩ => ok_bind (ok_opt ⟨i, by rw [e]; rfl, ok_pure q⟩))
theorem ok_part {m : M D} {Q : Option Int → List Sl → Prop} (h : Ok m sl fun d s => ∃ i, d = .int i ∧ Q (some i) s) : Ok (partM m) sl Q := ok_bind (ok_mono h fun d s ⟨i, e, q⟩ => ok_bind (ok_opt ⟨i, by rw [e]; rfl, ok_pure q⟩))
theorem ok_slice {mx : M Rv} {ml mh : M (Option Int)} {Q : Rv → List Sl → Prop} (h : Ok mx sl fun x s => Ok ml s fun lo s => Ok mh s fun hi s => Ok (peek x) s fun d s => OkO (sliceF d lo hi) fun r => Q r s) : Ok (sliceM mx ml mh) sl Q :=
  ok_bind (ok_mono h fun _ _ q => ok_bind (ok_mono q fun _ _ q => ok_bind (ok_mono q fun _ _ q => ok_bind (ok_mono q fun _ _ q => ok_opt q))))
theorem ok_rev {mx : M Rv} {Q : Rv → List Sl → Prop} (h : Ok mx sl fun x s => Ok (peek x) s fun d s => OkO (revF d) fun r => Q r s) : Ok (revM mx) sl Q := ok_bind (ok_mono h fun _ _ q => ok_bind (ok_mono q fun _ _ q => ok_opt q))
theorem ok_lk1 {m : M Rv} {g : D → Option Rv} {Q : Rv → List Sl → Prop} (h : Ok m sl fun x s => Ok (peek x) s fun d s => OkO (g d) fun r => Q r s) : Ok (lk1 m g) sl Q := ok_bind (ok_mono h fun _ _ q => ok_bind (ok_mono q fun _ _ q => ok_opt q))
theorem ok_rg1 {m : M D} {Q : Int × Int → List Sl → Prop} (h : Ok m sl fun d s => ∃ i, d = .int i ∧ Q (0, i) s) : Ok (rg1M m) sl Q := ok_bind (ok_mono h fun d s ⟨i, e, q⟩ => ok_bind (ok_opt ⟨i, by rw [e]; rfl, ok_pure q⟩))
theorem ok_rg2 {m n : M D} {Q : Int × Int → List Sl → Prop} (h : Ok m sl fun d s => Ok n s fun e s => ∃ i j, d = .int i ∧ e = .int j ∧ Q (i, j) s) : Ok (rg2M m n) sl Q := ok_bind (ok_mono h fun d s q => ok_bind (ok_mono q fun e s ⟨i, j, e1, e2, q⟩ => ok_bind (ok_opt ⟨i, by rw [e1]; rfl, ok_bind (ok_opt ⟨j, by rw [e2]; rfl, ok_pure q⟩)⟩)))
structure RgG (p : Int × Int) : Prop where
  ok : rgOk p = true
theorem rgG_nat {n : Nat} (h : n ≤ 1000000) : RgG (0, (n : Nat)) := ⟨by
  unfold rgOk
  simp only [Bool.and_eq_true, decide_eq_true_eq]
  omega⟩
theorem rgG_int {i j : Int} (h : -1000000 ≤ i ∧ i ≤ 1000000 ∧ -1000000 ≤ j ∧ j ≤ 1000000) : RgG (i, j) := ⟨by
  unfold rgOk
  simp only [Bool.and_eq_true, decide_eq_true_eq]
  omega⟩
theorem ok_listRg {m : M (Int × Int)} {Q : Rv → List Sl → Prop} (h : Ok m sl fun p s => RgG p ∧ Q (.fr (.lst (rangeD p.1 (p.2 - p.1).toNat))) s) : Ok (listRgM m) sl Q := ok_bind (ok_mono h fun p s ⟨e, q⟩ => by
  show Ok (if rgOk p = true then _ else _) s Q
  rw [if_pos e.ok]; exact ok_pure q)
theorem ok_tupRg {m : M (Int × Int)} {Q : D → List Sl → Prop} (h : Ok m sl fun p s => RgG p ∧ Q (.tuple (rangeD p.1 (p.2 - p.1).toNat)) s) : Ok (tupRgM m) sl Q := ok_bind (ok_mono h fun p s ⟨e, q⟩ => by
  show Ok (if rgOk p = true then _ else _) s Q
  rw [if_pos e.ok]; exact ok_pure q)
theorem ok_meth {m : M (List D)} {f : List D → List D → Option (D × List D)} {Q : D → List Sl → Prop} {io lk : Bool} {xs0 : List D} (h0 : sl[i]? = some (.own io lk (.lst xs0))) (h : Ok m sl fun ds s => ∃ io xs, s[i]? = some (.own io false (.lst xs)) ∧ OkO (f xs ds) fun p => Q p.1 (s.set i (.own io false (.lst p.2)))) : Ok (methL i m f) sl Q := by
  obtain ⟨ds, s, e1, io2, o2, e2, r, e3, q⟩ := h
  refine ⟨r.1, _, ?_, q⟩
  unfold methL
  simp only [h0, e1, e2, e3]
  rfl
/-! sources -/
theorem ok_walkd {Q : List D × Option Nat → List Sl → Prop} (h : OkO (seqOf d) fun ds => Q (ds, none) sl) : Ok (walkRv (.d d)) sl Q := by
  obtain ⟨ds, e, q⟩ := h
  exact ⟨_, _, show (Option.map (fun a => (a, sl)) (Option.map (fun ds => (ds, none)) (seqOf d))) = some ((ds, none), sl) by rw [e]; rfl, q⟩
theorem ok_walkf {ds : List D} {Q : List D × Option Nat → List Sl → Prop} (h : Q (ds, none) sl) : Ok (walkRv (.fr (.lst ds))) sl Q := ⟨_, _, rfl, h⟩
theorem ok_walks {ds : List D} {io : Bool} {Q : List D × Option Nat → List Sl → Prop} (h : sl[i]? = some (.own io false (.lst ds))) (q : Q (ds, some i) sl) : Ok (walkRv (.sl i)) sl Q := ⟨_, _, by unfold walkRv; simp only [h], q⟩
theorem ok_walkl {ds : List D} {io : Bool} {Q : List D × Option Nat → List Sl → Prop} (h : sl[i]? = some (.own io true (.lst ds))) (q : Q (ds, none) sl) : Ok (walkRv (.sl i)) sl Q := ⟨_, _, by unfold walkRv; simp only [h], q⟩
theorem ok_rng {f : List D → Option (List D)} {m : M (List D)} {Q : List D × Option Nat → List Sl → Prop} (h : Ok m sl fun ds s => OkO (f ds) fun xs => Q (xs, none) s) : Ok (rngM f m) sl Q := ok_bind (ok_mono h fun _ _ ⟨xs, e, q⟩ => ok_bind (ok_opt ⟨xs, e, ok_pure q⟩))
theorem ok_enum {m : M Rv} {Q : List D × Option Nat → List Sl → Prop} (h : Ok m sl fun x s => Ok (walkRv x) s fun p s => Q (numbered 0 p.1, p.2) s) : Ok (enumM m) sl Q := ok_bind (ok_mono h fun _ _ q => ok_bind (ok_mono q fun _ _ q => ok_pure q))
/-! statements -/
theorem ok_skip {Q : Fl → List Sl → Prop} (h : Q .nx sl) : OkS skipS sl Q := ⟨_, _, rfl, h⟩
theorem ok_brk {Q : Fl → List Sl → Prop} (h : Q .bk sl) : OkS (fun sl => some (.bk, sl)) sl Q := ⟨_, _, rfl, h⟩
theorem ok_ct {Q : Fl → List Sl → Prop} (h : Q .ct sl) : OkS (fun sl => some (.ct, sl)) sl Q := ⟨_, _, rfl, h⟩
def thenS (b : S) (Q : Fl → List Sl → Prop) : Fl → List Sl → Prop
  | .nx, s => OkS b s Q
  | f, s => Q f s
theorem thenS_nx {b : S} {Q : Fl → List Sl → Prop} (h : OkS b sl Q) : thenS b Q .nx sl := h
theorem thenS_rt {b : S} {Q : Fl → List Sl → Prop} {v : Rv} (h : Q (.rt v) sl) : thenS b Q (.rt v) sl := h
theorem thenS_bk {b : S} {Q : Fl → List Sl → Prop} (h : Q .bk sl) : thenS b Q .bk sl := h
theorem thenS_ct {b : S} {Q : Fl → List Sl → Prop} (h : Q .ct sl) : thenS b Q .ct sl := h
theorem ok_seq {a b : S} {Q : Fl → List Sl → Prop} (h : OkS a sl (thenS b Q)) : OkS (seqS a b) sl Q := by
  obtain ⟨f, s, e, q⟩ := h
  unfold seqS
  cases f with
  | nx =>
    obtain ⟨f2, s2, e2, q2⟩ := q
    exact ⟨f2, s2, by simp only [e]; exact e2, q2⟩
  | bk => exact ⟨_, s, by simp only [e], q⟩
  | ct => exact ⟨_, s, by simp only [e], q⟩
  | rt r => exact ⟨_, s, by simp only [e], q⟩
theorem ok_if {c : M Bool} {a b : S} {Q : Fl → List Sl → Prop} (h : Ok c sl fun t s => (t = true → OkS a s Q) ∧ (t = false → OkS b s Q)) : OkS (ifS c a b) sl Q := by
  obtain ⟨t, s, e, q1, q2⟩ := h
  unfold ifS OkS
  simp only [e]
  cases t with
  | true => exact q1 rfl
  | false => exact q2 rfl
theorem ok_drop {m : M α} {Q : Fl → List Sl → Prop} (h : Ok m sl fun _ s => Q .nx s) : OkS (dropS m) sl Q := by
  obtain ⟨a, s, e, q⟩ := h
  exact ⟨.nx, s, by unfold dropS; simp only [e], q⟩
theorem ok_leaved {Q : Rv → List Sl → Prop} (q : Q (.d d) sl) : Ok (leave (.d d)) sl Q := ⟨_, _, rfl, q⟩
theorem ok_leavef {Q : Rv → List Sl → Prop} {o : OO} (q : Q (.fr o) sl) : Ok (leave (.fr o)) sl Q := ⟨_, _, rfl, q⟩
theorem ok_leaves {Q : Rv → List Sl → Prop} {o : OO} (h : sl[i]? = some (.own false false o)) (q : Q (.fr o) (sl.set i .nil)) : Ok (leave (.sl i)) sl Q := ⟨_, _, by unfold leave; simp only [h], q⟩
theorem ok_ret {m : M Rv} {Q : Fl → List Sl → Prop} (h : Ok m sl fun x s => Ok (leave x) s fun r s => Q (.rt r) s) : OkS (retS m) sl Q := by
  obtain ⟨x, s1, e1, r, s2, e2, q⟩ := h
  exact ⟨.rt r, s2, by unfold retS; simp only [bind_run e1, e2], q⟩
theorem ok_settled {Q : Rv → List Sl → Prop} (q : Q (.d d) sl) : Ok (settle (.d d)) sl Q := ⟨_, _, rfl, q⟩
theorem ok_settlef {Q : Rv → List Sl → Prop} {o : OO} (q : Q (.fr o) sl) : Ok (settle (.fr o)) sl Q := ⟨_, _, rfl, q⟩
theorem ok_settles {Q : Rv → List Sl → Prop} (h : Ok (take (.sl i)) sl fun d s => Q (.d d) s) : Ok (settle (.sl i)) sl Q := ok_bind (ok_mono h fun _ _ q => ok_pure q)
theorem ok_asg {m : M Rv} {Q : Fl → List Sl → Prop} (h : Ok m sl fun x s => Ok (settle x) s fun r s => OkG (putRv i r) s fun s => Q .nx s) : OkS (asg i m) sl Q := by
  obtain ⟨x, s1, e1, r, s2, e2, s3, e3, q⟩ := h
  exact ⟨.nx, s3, by unfold asg; simp only [bind_run e1, e2, e3]; rfl, q⟩
theorem ok_putd {Q : List Sl → Prop} (h : okSet sl i = true) (q : Q (sl.set i (.val d))) : OkG (putRv i (.d d)) sl Q := ⟨_, show (if okSet sl i = true then some (sl.set i (Sl.val d)) else none) = _ from if_pos h, q⟩
theorem ok_putf {Q : List Sl → Prop} {o : OO} (h : okSet sl i = true) (q : Q (sl.set i (.own false false o))) : OkG (putRv i (.fr o)) sl Q := ⟨_, show (if okSet sl i = true then some (sl.set i (Sl.own false false o)) else none) = _ from if_pos h, q⟩
theorem ok_asgT {m : M D} {g : D → List Sl → Option (List Sl)} {Q : Fl → List Sl → Prop} (h : Ok m sl fun d s => OkG (g d) s fun s => Q .nx s) : OkS (asgT m g) sl Q := by
  obtain ⟨x, s1, e1, s3, e3, q⟩ := h
  exact ⟨.nx, s3, by unfold asgT; simp only [e1, e3]; rfl, q⟩
theorem ok_gv {Q : List Sl → Prop} (h : okSet sl i = true) (q : Q (sl.set i (.val d))) : OkG (gv i d) sl Q := ⟨_, by unfold gv setS; rw [if_pos h], q⟩
theorem ok_gtup {n : Nat} {gs : List D → List Sl → Option (List Sl)} {Q : List Sl → Prop} {ds : List D} (h : seqOf d = some ds) (l : ds.length = n) (q : OkG (gs ds) sl Q) : OkG (gtup n gs d) sl Q := by
  obtain ⟨s, e, q⟩ := q
  exact ⟨s, by unfold gtup; simp only [h, l, if_true]; exact e, q⟩
theorem ok_gcons {g : D → List Sl → Option (List Sl)} {gs : List D → List Sl → Option (List Sl)} {ds : List D} {Q : List Sl → Prop} (h : OkG (g d) sl fun s => OkG (gs ds) s Q) : OkG (gcons g gs (d :: ds)) sl Q := by
  obtain ⟨s, e, s2, e2, q⟩ := h
  exact ⟨s2, by unfold gcons; simp only [e]; exact e2, q⟩
theorem ok_gnil {Q : List Sl → Prop} (h : Q sl) : OkG (gnil []) sl Q := ⟨_, rfl, h⟩
theorem ok_gsub {mi : M D} {Q : List Sl → Prop} {io lk : Bool} {xs0 : List D} (h0 : sl[i]? = some (.own io lk (.lst xs0))) (h : Ok mi sl fun k s => ∃ io xs j n, s[i]? = some (.own io false (.lst xs)) ∧ k = .int j ∧ L2.ixN xs.length j = some n ∧ Q (s.set i (.own io false (.lst (xs.set n d))))) : OkG (gsub i mi d) sl Q := by
  obtain ⟨k, s, e1, io2, xs, j, n, e2, rfl, e3, q⟩ := h
  refine ⟨_, ?_, q⟩
  unfold gsub
  simp only [h0, e1, e2, intD, e3]
  rfl
theorem ok_settleAll_nil {Q : List Rv → List Sl → Prop} (q : Q [] sl) : Ok (settleAll []) sl Q := ⟨_, _, rfl, q⟩
theorem ok_settleAll_cons {r : Rv} {rs : List Rv} {Q : List Rv → List Sl → Prop} (h : Ok (settle r) sl fun x s => Ok (settleAll rs) s fun xs s => Q (x :: xs) s) : Ok (settleAll (r :: rs)) sl Q := ok_bind (ok_mono h fun _ _ q => ok_bind (ok_mono q fun _ _ q => ok_pure q))
theorem ok_putAll_nil {Q : List Sl → Prop} (q : Q sl) : OkG (putAll [] []) sl Q := ⟨_, rfl, q⟩
theorem ok_putAll_cons {is : List Nat} {r : Rv} {rs : List Rv} {Q : List Sl → Prop} (h : OkG (putRv i r) sl fun s => OkG (putAll is rs) s Q) : OkG (putAll (i :: is) (r :: rs)) sl Q := by
  obtain ⟨s, e, s2, e2, q⟩ := h
  exact ⟨s2, by unfold putAll; simp only [e]; exact e2, q⟩
theorem ok_par {is : List Nat} {m : M (List Rv)} {Q : Fl → List Sl → Prop} (h : Ok m sl fun rs s => Ok (settleAll rs) s fun rs s => OkG (putAll is rs) s fun s => Q .nx s) : OkS (parS is m) sl Q := by
  obtain ⟨x, s1, e1, r, s2, e2, s3, e3, q⟩ := h
  exact ⟨.nx, s3, by unfold parS; simp only [bind_run e1, e2, e3]; rfl, q⟩
end
/-! ### loops -/
/-- a loop by an invariant, by what is left; Fin: a way out by a return -/
theorem loop_inv {g : D → List Sl → Option (List Sl)} {body : S} {Q : Fl → List Sl → Prop} (I : List D → List Sl → Prop) : ∀ {ds : List D} {sl : List Sl}, I ds sl →
    (∀ d r sl, (∃ a, ds = a ++ d :: r) → I (d :: r) sl → OkG (g d) sl fun s => OkS body s fun f s => match f with
      | .nx => I r s
      | .ct => I r s
      | .bk => Q .nx s
      | .rt v => Q (.rt v) s) → (∀ sl, I [] sl → Q .nx sl) → OkS (loopS g body ds) sl Q
  | [], sl, h, _, fin => ⟨.nx, sl, rfl, fin sl h⟩
  | d :: ds, sl, h, step, fin => by
    obtain ⟨s1, e1, f, s2, e2, q⟩ := step d ds sl ⟨[], rfl⟩ h
    have tail : I ds s2 → OkS (loopS g body ds) s2 Q := fun hI => loop_inv I hI (fun d' r' sl' ⟨a, e⟩ => step d' r' sl' ⟨d :: a, by rw [e]; rfl⟩) fin
    unfold OkS loopS
    simp only [e1, e2]
    cases f with
    | nx => exact tail q
    | ct => exact tail q
    | bk => exact ⟨.nx, s2, rfl, q⟩
    | rt v => exact ⟨.rt v, s2, rfl, q⟩
theorem ok_for {src : M (List D × Option Nat)} {g : D → List Sl → Option (List Sl)} {body : S} {sl : List Sl} {Q : Fl → List Sl → Prop} (h : Ok src sl fun p s => OkS (loopS g body p.1) (lockO p.2 s) fun f s => Q f (unlockO p.2 s)) : OkS (forS src g body) sl Q := by
  obtain ⟨⟨ds, lk⟩, s, e, f, s2, e2, q⟩ := h
  refine ⟨f, unlockO lk s2, ?_, q⟩
  unfold forS
  simp only [e, e2]
theorem ok_while {c : M Bool} {body : S} {Q : Fl → List Sl → Prop} (I : Nat → List Sl → Prop) : ∀ {n N : Nat} {sl : List Sl}, n < N → I n sl →
    (∀ n sl, I n sl → Ok c sl fun t s => (t = false → Q .nx s) ∧ (t = true → ∃ k, n = k + 1 ∧ OkS body s fun f s => match f with
      | .nx => I k s
      | .ct => I k s
      | .bk => Q .nx s
      | .rt v => Q (.rt v) s)) → OkS (whileS c body N) sl Q
  | n, 0, _, hn, _, _ => by omega
  | n, N + 1, sl, hn, h, step => by
    obtain ⟨t, s, e, q1, q2⟩ := step n sl h
    unfold OkS whileS
    simp only [e]
    cases t with
    | false => exact ⟨.nx, s, rfl, q1 rfl⟩
    | true =>
      obtain ⟨k, rfl, f, s2, e2, q⟩ := q2 rfl
      simp only [e2]
      cases f with
      | nx => exact ok_while I (by omega) q step
      | ct => exact ok_while I (by omega) q step
      | bk => exact ⟨.nx, s2, rfl, q⟩
      | rt v => exact ⟨.rt v, s2, rfl, q⟩
/-! ### comprehensions -/
def OkW (vs : List Nat) (sl : List Sl) (Q : List Sl → Prop) : Prop := ∃ s, wipeS vs sl = some s ∧ Q s
theorem ok_lc {src : M (List D × Option Nat)} {g : D → List Sl → Option (List Sl)} {tt : M Bool} {te : M D} {vs : List Nat} {sl : List Sl} {Q : Rv → List Sl → Prop}
    (h : Ok src sl fun p s => OkW vs (lockO p.2 s) fun s2 => ∃ rs s3, lcLoop g tt te vs p.1 0 s2 = some (rs, s3) ∧ Q (.fr (.lst rs)) (unlockO p.2 (backS (lockO p.2 s) vs s3))) : Ok (lcM src g tt te vs) sl Q := by
  obtain ⟨⟨ds, lk⟩, s, e, s2, e2, rs, s3, e3, q⟩ := h
  refine ⟨_, _, ?_, q⟩
  unfold lcM
  simp only [e, e2, e3]
theorem okw_lock0 {vs : List Nat} {sl : List Sl} {Q : List Sl → Prop} (h : OkW vs sl Q) : OkW vs (lockO none sl) Q := h
theorem loop_lock0 {g : D → List Sl → Option (List Sl)} {body : S} {ds : List D} {sl : List Sl} {Q : Fl → List Sl → Prop} (h : OkS (loopS g body ds) sl Q) : OkS (loopS g body ds) (lockO none sl) Q := h
theorem okw_nil {sl : List Sl} {Q : List Sl → Prop} (q : Q sl) : OkW [] sl Q := ⟨sl, rfl, q⟩
theorem okw_cons {v : Nat} {vs : List Nat} {sl : List Sl} {Q : List Sl → Prop} (h : OkW vs sl fun s => okSet s v = true ∧ Q (s.set v .nil)) : OkW (v :: vs) sl Q := by
  obtain ⟨s, e, h1, q⟩ := h
  refine ⟨_, ?_, q⟩
  unfold wipeS
  simp only [e, h1, if_true]
theorem okw_and {sl : List Sl} {v : Nat} {Q : Prop} (h : okSet sl v = true) (q : Q) : okSet sl v = true ∧ Q := ⟨h, q⟩
/-- each turn leaves the slots as they are (but for what I tells) and tells an item or none -/
theorem lc_inv {g : D → List Sl → Option (List Sl)} {tt : M Bool} {te : M D} {vs : List Nat} (I : List D → List D → List Sl → Prop) : ∀ {ds : List D} {n : Nat} {sl : List Sl} {acc : List D}, n + ds.length ≤ sizeLine → I ds acc sl →
    (∀ d r acc sl, (∃ a, ds = a ++ d :: r) → I (d :: r) acc sl → OkG (g d) sl fun s => Ok tt s fun t s => (t = false → OkW vs s fun s => I r acc s) ∧ (t = true → Ok te s fun y s => OkW vs s fun s => I r (acc ++ [y]) s)) →
    ∃ rs s, lcLoop g tt te vs ds n sl = some (rs, s) ∧ I [] (acc ++ rs) s
  | [], n, sl, acc, _, h, _ => ⟨[], sl, rfl, by rw [List.append_nil]; exact h⟩
  | d :: ds, n, sl, acc, hn, h, step => by
    rw [List.length_cons] at hn
    obtain ⟨s1, e1, t, s2, e2, q1, q2⟩ := step d ds acc sl ⟨[], rfl⟩ h
    unfold lcLoop
    simp only [e1, e2]
    cases t with
    | false =>
      obtain ⟨s3, e3, q⟩ := q1 rfl
      simp only [e3]
      exact lc_inv I (by omega) q (fun d' r' acc' sl' ⟨a, e⟩ => step d' r' acc' sl' ⟨d :: a, by rw [e]; rfl⟩)
    | true =>
      obtain ⟨y, s3, e3, s4, e4, q⟩ := q2 rfl
      obtain ⟨rs, s5, e5, q5⟩ := lc_inv (n := n + 1) I (by omega) q (fun d' r' acc' sl' ⟨a, e⟩ => step d' r' acc' sl' ⟨d :: a, by rw [e]; rfl⟩)
      refine ⟨y :: rs, s5, ?_, by rw [List.append_assoc] at q5; exact q5⟩
      simp only [e3, e4, e5]
      rw [if_pos (by omega)]
/-- a pure comprehension: the slots stay -/
theorem lc_pure {g : D → List Sl → Option (List Sl)} {tt : M Bool} {te : M D} {vs : List Nat} {sl : List Sl} (f : D → Option D) : ∀ {ds : List D} {n : Nat}, n + ds.length ≤ sizeLine →
    (∀ d, d ∈ ds → OkG (g d) sl fun s => Ok tt s fun t s => (t = false → OkW vs s fun s => f d = none ∧ s = sl) ∧ (t = true → Ok te s fun y s => OkW vs s fun s => f d = some y ∧ s = sl)) →
    lcLoop g tt te vs ds n sl = some (ds.filterMap f, sl)
  | [], n, _, _ => rfl
  | d :: ds, n, hn, step => by
    rw [List.length_cons] at hn
    obtain ⟨s1, e1, t, s2, e2, q1, q2⟩ := step d List.mem_cons_self
    unfold lcLoop
    simp only [e1, e2]
    cases t with
    | false =>
      obtain ⟨s3, e3, e4, rfl⟩ := q1 rfl
      simp only [e3, List.filterMap_cons, e4]
      exact lc_pure f (by omega) fun d' h => step d' (List.mem_cons_of_mem _ h)
    | true =>
      obtain ⟨y, s3, e3, s4, e5, e6, rfl⟩ := q2 rfl
      simp only [e3, e5, List.filterMap_cons, e6]
      rw [if_pos (by omega), lc_pure (n := n + 1) f (by omega) fun d' h => step d' (List.mem_cons_of_mem _ h)]
theorem lc_run {g : D → List Sl → Option (List Sl)} {tt : M Bool} {te : M D} {vs : List Nat} {ds : List D} {sl : List Sl} {Q : List D → List Sl → Prop} (I : List D → List D → List Sl → Prop) (hn : ds.length ≤ 1000000) (h : I ds [] sl)
    (step : ∀ d r acc sl, (∃ a, ds = a ++ d :: r) → I (d :: r) acc sl → OkG (g d) sl fun s => Ok tt s fun t s => (t = false → OkW vs s fun s => I r acc s) ∧ (t = true → Ok te s fun y s => OkW vs s fun s => I r (acc ++ [y]) s))
    (fin : ∀ rs s, I [] rs s → Q rs s) : ∃ rs s, lcLoop g tt te vs ds 0 sl = some (rs, s) ∧ Q rs s := by
  obtain ⟨rs, s, e, q⟩ := lc_inv (n := 0) I (by rw [Nat.zero_add]; exact Nat.le_trans hn (by decide +kernel)) h step
  exact ⟨rs, s, e, fin rs s (by rw [List.nil_append] at q; exact q)⟩
theorem lc_runP {g : D → List Sl → Option (List Sl)} {tt : M Bool} {te : M D} {vs : List Nat} {ds : List D} {sl : List Sl} {Q : List D → List Sl → Prop} (f : D → Option D) (hn : ds.length ≤ 1000000)
    (step : ∀ d, d ∈ ds → OkG (g d) sl fun s => Ok tt s fun t s => (t = false → OkW vs s fun s => f d = none ∧ s = sl) ∧ (t = true → Ok te s fun y s => OkW vs s fun s => f d = some y ∧ s = sl))
    (fin : Q (ds.filterMap f) sl) : ∃ rs s, lcLoop g tt te vs ds 0 sl = some (rs, s) ∧ Q rs s :=
  ⟨_, _, lc_pure f (by rw [Nat.zero_add]; exact Nat.le_trans hn (by decide +kernel)) step, fin⟩
/-! ### a def -/
theorem run_data (sl : List Sl) {nP nN : Nat} {m : S} {ds : List D} {Q : Rv → Prop} (hl : ds.length = nP) (hs : ds.map Sl.val ++ List.replicate (nN - ds.length) .nil = sl) (h : OkS m sl fun f _ => ∃ r, finish f = some r ∧ Q r) : OkO (runF nP nN m ds) Q := by
  subst hs
  obtain ⟨f, s, e, r, e2, q⟩ := h
  refine ⟨r, ?_, q⟩
  unfold runF
  rw [if_pos hl]
  simp only [e, e2]
theorem run_lent (sl : List Sl) {nP nN : Nat} {m : S} {o : OO} {ds : List D} {Q : Rv × OO → Prop} (hl : ds.length + 1 = nP) (hs : Sl.own true false o :: (ds.map Sl.val ++ List.replicate (nN - (ds.length + 1)) .nil) = sl) (h : OkS m sl fun f s => ∃ r o' t, finish f = some r ∧ s = .own true false o' :: t ∧ Q (r, o')) :
    OkO (runI nP nN m o ds) Q := by
  subst hs
  obtain ⟨f, s, e, r, o', t, e1, rfl, q⟩ := h
  refine ⟨(r, o'), ?_, q⟩
  unfold runI
  rw [if_pos hl]
  simp only [e, e1]
  rfl
def SV (x : Sl) : Prop := x = .nil ∨ ∃ d, x = .val d
theorem okSet_sv {sl : List Sl} {i : Nat} {x : Sl} (h : sl[i]? = some x) (hx : SV x) : okSet sl i = true := by
  unfold okSet
  rw [h]
  rcases hx with rfl | ⟨d, rfl⟩ <;> rfl
theorem back_sv {x : Sl} (hx : SV x) : backOf (some x) = x := by rcases hx with rfl | ⟨d, rfl⟩ <;> rfl
theorem rangeD0 (n : Nat) : rangeD 0 n = (List.range n).map fun i => PyData.int ((i : Nat) : Int) := by
  unfold rangeD
  refine List.map_congr_left fun i _ => ?_
  rw [Int.zero_add]
theorem sv_nil : SV .nil := .inl rfl
theorem sv_val {d : D} : SV (.val d) := .inr ⟨d, rfl⟩
theorem sz_and {n : Nat} {Q : Prop} (h : Nat.ble n 1000 = true) (q : Q) : n ≤ sizeLine ∧ Q := ⟨Nat.le_trans (Nat.le_of_ble_eq_true h) (by decide +kernel), q⟩
theorem ex_int {i : Int} {Q : Int → Prop} (q : Q i) : ∃ j, PyData.int i = .int j ∧ Q j := ⟨i, rfl, q⟩
theorem ex_int2 {i j : Int} {Q : Int → Int → Prop} (q : Q i j) : ∃ a b, PyData.int i = .int a ∧ PyData.int j = .int b ∧ Q a b := ⟨i, j, rfl, rfl, q⟩
theorem ex_fin {x : Rv} {Q : Rv → Prop} (q : Q x) : ∃ r, finish (.rt x) = some r ∧ Q r := ⟨x, rfl, q⟩
/-! ### operations on ints -/
section
variable {i j : Int} {Q : Rv → Prop}
theorem o_add (q : Q (.d (.int (i + j)))) : OkO (addR (.int i) (.int j)) Q := ⟨_, rfl, q⟩
theorem o_sub (q : Q (.d (.int (i - j)))) : OkO (subR (.int i) (.int j)) Q := ⟨_, rfl, q⟩
theorem o_mod (h : 0 < j) (q : Q (.d (.int (i % j)))) : OkO (modR (.int i) (.int j)) Q := ⟨_, show (if 0 < j then some (Rv.d (.int (i % j))) else none) = _ from if_pos h, q⟩
theorem o_fdiv (h : 0 < j ∧ j.natAbs.log2 < 9000) (q : Q (.d (.int (i / j)))) : OkO (fdivR (.int i) (.int j)) Q := ⟨_, show (if 0 < j ∧ j.natAbs.log2 < 9000 then some (Rv.d (.int (i / j))) else none) = _ from if_pos h, q⟩
theorem o_mul (h : mulOk i j = true) (q : Q (.d (.int (i * j)))) : OkO (mulR (.int i) (.int j)) Q := ⟨_, show (if mulOk i j = true then some (Rv.d (.int (i * j))) else none) = _ from if_pos h, q⟩
structure PowOk (i j : Int) : Prop where
  ok : 0 ≤ j ∧ ((i.natAbs.log2 : Int) + 1) * j ≤ 2 ^ 27
theorem o_pow (h : PowOk i j) (q : Q (.d (.int (i ^ j.toNat)))) : OkO (powR (.int i) (.int j)) Q := ⟨_, show (if 0 ≤ j ∧ ((i.natAbs.log2 : Int) + 1) * j ≤ 2 ^ 27 then some (Rv.d (.int (i ^ j.toNat))) else none) = _ from if_pos h.ok, q⟩
theorem mulOk_l (h : i.natAbs < 2 ^ 64) : mulOk i j = true := by unfold mulOk; simp [h]
theorem mulOk_r (h : j.natAbs < 2 ^ 64) : mulOk i j = true := by unfold mulOk; simp [h]
end
theorem q_item {p q : D} {r : D} {Q : D → Prop} (h : itemD p q = some r) (k : Q r) : OkO (itemD p q) Q := ⟨r, h, k⟩
theorem q_gt {p q : D} {r : Bool} {Q : Bool → Prop} (h : gtB p q = some r) (k : Q r) : OkO (gtB p q) Q := ⟨r, h, k⟩
theorem q_lt {p q : D} {r : Bool} {Q : Bool → Prop} (h : ltB p q = some r) (k : Q r) : OkO (ltB p q) Q := ⟨r, h, k⟩
theorem q_le {p q : D} {r : Bool} {Q : Bool → Prop} (h : leB p q = some r) (k : Q r) : OkO (leB p q) Q := ⟨r, h, k⟩
theorem q_ge {p q : D} {r : Bool} {Q : Bool → Prop} (h : geB p q = some r) (k : Q r) : OkO (geB p q) Q := ⟨r, h, k⟩
theorem q_eq {p q : D} {r : Bool} {Q : Bool → Prop} (h : eqB p q = some r) (k : Q r) : OkO (eqB p q) Q := ⟨r, h, k⟩
theorem q_ne {p q : D} {r : Bool} {Q : Bool → Prop} (h : neB p q = some r) (k : Q r) : OkO (neB p q) Q := ⟨r, h, k⟩
theorem q_intF {ds : List D} {r : Rv} {Q : Rv → Prop} (h : intF ds = some r) (k : Q r) : OkO (intF ds) Q := ⟨r, h, k⟩
theorem q_lenF {ds : List D} {r : Rv} {Q : Rv → Prop} (h : lenF ds = some r) (k : Q r) : OkO (lenF ds) Q := ⟨r, h, k⟩
theorem q_absF {ds : List D} {r : Rv} {Q : Rv → Prop} (h : absF ds = some r) (k : Q r) : OkO (absF ds) Q := ⟨r, h, k⟩
theorem q_seqOf {p : D} {r : List D} {Q : (List D) → Prop} (h : seqOf p = some r) (k : Q r) : OkO (seqOf p) Q := ⟨r, h, k⟩
theorem q_blD {p : D} {r : Bool} {Q : Bool → Prop} (h : blD p = some r) (k : Q r) : OkO (blD p) Q := ⟨r, h, k⟩
theorem q_isiF {T : String} {p : D} {r : Bool} {Q : Bool → Prop} (h : isiF T p = some r) (k : Q r) : OkO (isiF T p) Q := ⟨r, h, k⟩
theorem q_sliceF {p : D} {lo hi : Option Int} {r : Rv} {Q : Rv → Prop} (h : sliceF p lo hi = some r) (k : Q r) : OkO (sliceF p lo hi) Q := ⟨r, h, k⟩
theorem q_revF {p : D} {r : Rv} {Q : Rv → Prop} (h : revF p = some r) (k : Q r) : OkO (revF p) Q := ⟨r, h, k⟩
theorem q_max2F {ds : List D} {r : Rv} {Q : Rv → Prop} (h : max2F ds = some r) (k : Q r) : OkO (max2F ds) Q := ⟨r, h, k⟩
theorem q_min2F {ds : List D} {r : Rv} {Q : Rv → Prop} (h : min2F ds = some r) (k : Q r) : OkO (min2F ds) Q := ⟨r, h, k⟩
theorem q_listF {ds : List D} {r : Rv} {Q : Rv → Prop} (h : listF ds = some r) (k : Q r) : OkO (listF ds) Q := ⟨r, h, k⟩
theorem q_tupleF {ds : List D} {r : Rv} {Q : Rv → Prop} (h : tupleF ds = some r) (k : Q r) : OkO (tupleF ds) Q := ⟨r, h, k⟩
theorem q_popF {xs ds : List D} {r : D × List D} {Q : (D × List D) → Prop} (h : popF xs ds = some r) (k : Q r) : OkO (popF xs ds) Q := ⟨r, h, k⟩
structure RngG (i j : Int) : Prop where
  ok : -(2 ^ 62) ≤ i ∧ i < 2 ^ 62 ∧ -(2 ^ 62) ≤ j ∧ j < 2 ^ 62
theorem q_rng1 {j : Int} {Q : List D → Prop} (h : RngG 0 j) (k : Q (rangeD 0 j.toNat)) : OkO (rng1 [.int j]) Q := ⟨_, show (if -(2 ^ 62) ≤ j ∧ j < 2 ^ 62 then some (rangeD 0 j.toNat) else none) = _ from if_pos h.ok.2.2, k⟩
theorem q_rng2 {i j : Int} {Q : List D → Prop} (h : RngG i j) (k : Q (rangeD i (j - i).toNat)) : OkO (rng2 [.int i, .int j]) Q := ⟨_, show (if -(2 ^ 62) ≤ i ∧ i < 2 ^ 62 ∧ -(2 ^ 62) ≤ j ∧ j < 2 ^ 62 then some (rangeD i (j - i).toNat) else none) = _ from if_pos h.ok, k⟩
theorem q_append {xs : List D} {d : D} {Q : D × List D → Prop} (h : xs.length < sizeLine) (k : Q (.none, xs ++ [d])) : OkO (appendF xs [d]) Q := ⟨_, show (if xs.length < sizeLine then some (PyData.none, xs ++ [d]) else none) = _ from if_pos h, k⟩
theorem popAt_eq {xs : List D} {j : Int} : popAtF xs [.int j] = if -(2 ^ 63) ≤ j ∧ j < 2 ^ 63 then (match seqIndex? j xs.length with
    | some k => (xs[k]?).map fun y => (y, xs.eraseIdx k)
    | none => none) else none := rfl
theorem seqIx_nat {i n : Nat} (h : i < n) : seqIndex? ((i : Nat) : Int) n = some i := by
  unfold seqIndex?
  simp only [show ¬ ((i : Int) < 0) by omega, if_false]
  rw [if_pos (by simp; omega)]
  simp
theorem q_popAt {xs : List D} {i : Nat} {Q : D × List D → Prop} (h : i < xs.length) (h2 : i < 1000000) (k : Q (xs[i], xs.eraseIdx i)) : OkO (popAtF xs [.int (i : Nat)]) Q := by
  refine ⟨_, ?_, k⟩
  rw [popAt_eq, if_pos (by omega), seqIx_nat h]
  simp only [List.getElem?_eq_getElem h]
  rfl
end RL
namespace RL
open PySem
local macro_rules | `(tactic| decreasing_trivial_pre_omega) => `(tactic| first | (with_reducible refine q_item (by with_unfolding_all rfl) ?_))
local macro_rules | `(tactic| decreasing_trivial_pre_omega) => `(tactic| first | (with_reducible refine q_gt (by with_unfolding_all rfl) ?_))
local macro_rules | `(tactic| decreasing_trivial_pre_omega) => `(tactic| first | (with_reducible refine q_lt (by with_unfolding_all rfl) ?_))
local macro_rules | `(tactic| decreasing_trivial_pre_omega) => `(tactic| first | (with_reducible refine q_le (by with_unfolding_all rfl) ?_))
local macro_rules | `(tactic| decreasing_trivial_pre_omega) => `(tactic| first | (with_reducible refine q_ge (by with_unfolding_all rfl) ?_))
local macro_rules | `(tactic| decreasing_trivial_pre_omega) => `(tactic| first | (with_reducible refine q_eq (by with_unfolding_all rfl) ?_))
local macro_rules | `(tactic| decreasing_trivial_pre_omega) => `(tactic| first | (with_reducible refine q_ne (by with_unfolding_all rfl) ?_))
local macro_rules | `(tactic| decreasing_trivial_pre_omega) => `(tactic| first | (with_reducible refine q_intF (by with_unfolding_all rfl) ?_))
local macro_rules | `(tactic| decreasing_trivial_pre_omega) => `(tactic| first | (with_reducible refine q_lenF (by with_unfolding_all rfl) ?_))
local macro_rules | `(tactic| decreasing_trivial_pre_omega) => `(tactic| first | (with_reducible refine q_absF (by with_unfolding_all rfl) ?_))
local macro_rules | `(tactic| decreasing_trivial_pre_omega) => `(tactic| first | (with_reducible refine q_seqOf (by with_unfolding_all rfl) ?_))
local macro_rules | `(tactic| decreasing_trivial_pre_omega) => `(tactic| first | (with_reducible refine q_blD (by with_unfolding_all rfl) ?_))
local macro_rules | `(tactic| decreasing_trivial_pre_omega) => `(tactic| first | (with_reducible refine q_isiF (by with_unfolding_all rfl) ?_))
local macro_rules | `(tactic| decreasing_trivial_pre_omega) => `(tactic| first | (with_reducible refine q_sliceF (by with_unfolding_all rfl) ?_))
local macro_rules | `(tactic| decreasing_trivial_pre_omega) => `(tactic| first | (with_reducible refine q_revF (by with_unfolding_all rfl) ?_))
local macro_rules | `(tactic| decreasing_trivial_pre_omega) => `(tactic| first | (with_reducible refine q_max2F (by with_unfolding_all rfl) ?_))
local macro_rules | `(tactic| decreasing_trivial_pre_omega) => `(tactic| first | (with_reducible refine q_min2F (by with_unfolding_all rfl) ?_))
local macro_rules | `(tactic| decreasing_trivial_pre_omega) => `(tactic| first | (with_reducible refine q_listF (by with_unfolding_all rfl) ?_))
local macro_rules | `(tactic| decreasing_trivial_pre_omega) => `(tactic| first | (with_reducible refine q_tupleF (by with_unfolding_all rfl) ?_))
local macro_rules | `(tactic| decreasing_trivial_pre_omega) => `(tactic| first | (with_reducible refine q_popF (by with_unfolding_all rfl) ?_))
local macro_rules | `(tactic| decreasing_trivial_pre_omega) => `(tactic| first | (with_reducible refine q_rng1 ⟨by decide +kernel⟩ ?_))
local macro_rules | `(tactic| decreasing_trivial_pre_omega) => `(tactic| first | (with_reducible refine q_rng2 ⟨by decide +kernel⟩ ?_))
local macro_rules | `(tactic| decreasing_trivial_pre_omega) => `(tactic| first | (with_reducible refine ok_skip ?_))
local macro_rules | `(tactic| decreasing_trivial_pre_omega) => `(tactic| first | (with_reducible refine ok_brk ?_))
local macro_rules | `(tactic| decreasing_trivial_pre_omega) => `(tactic| first | (with_reducible refine ok_ct ?_))
local macro_rules | `(tactic| decreasing_trivial_pre_omega) => `(tactic| first | (with_reducible refine ok_seq ?_))
local macro_rules | `(tactic| decreasing_trivial_pre_omega) => `(tactic| first | (with_reducible refine ok_if ?_))
local macro_rules | `(tactic| decreasing_trivial_pre_omega) => `(tactic| first | (with_reducible refine ok_twoB ?_))
local macro_rules | `(tactic| decreasing_trivial_pre_omega) => `(tactic| first | (with_reducible refine ok_twoD ?_))
local macro_rules | `(tactic| decreasing_trivial_pre_omega) => `(tactic| first | (with_reducible refine ok_two ?_))
local macro_rules | `(tactic| decreasing_trivial_pre_omega) => `(tactic| first | (with_reducible refine ok_item ?_))
local macro_rules | `(tactic| decreasing_trivial_pre_omega) => `(tactic| first | (with_reducible refine ok_bind ?_))
local macro_rules | `(tactic| decreasing_trivial_pre_omega) => `(tactic| first | (with_reducible refine ok_pure ?_))
local macro_rules | `(tactic| decreasing_trivial_pre_omega) => `(tactic| first | (with_reducible refine ok_peekd ?_))
local macro_rules | `(tactic| decreasing_trivial_pre_omega) => `(tactic| first | (with_reducible refine ok_peekf ?_))
local macro_rules | `(tactic| decreasing_trivial_pre_omega) => `(tactic| first | (with_reducible refine ok_taked ?_))
local macro_rules | `(tactic| decreasing_trivial_pre_omega) => `(tactic| first | (with_reducible refine ok_takef ?_))
local macro_rules | `(tactic| decreasing_trivial_pre_omega) => `(tactic| first | (with_reducible refine ok_cons ?_))
local macro_rules | `(tactic| decreasing_trivial_pre_omega) => `(tactic| first | (with_reducible refine ok_star ?_))
local macro_rules | `(tactic| decreasing_trivial_pre_omega) => `(tactic| first | (with_reducible refine ok_blt ?_))
local macro_rules | `(tactic| decreasing_trivial_pre_omega) => `(tactic| first | (with_reducible refine ok_call ?_))
local macro_rules | `(tactic| decreasing_trivial_pre_omega) => `(tactic| first | (with_reducible refine ok_callK ?_))
local macro_rules | `(tactic| decreasing_trivial_pre_omega) => `(tactic| first | (with_reducible refine ok_peekAll_nil ?_))
local macro_rules | `(tactic| decreasing_trivial_pre_omega) => `(tactic| first | (with_reducible refine ok_peekAll_cons ?_))
local macro_rules | `(tactic| decreasing_trivial_pre_omega) => `(tactic| first | (with_reducible refine ok_asg ?_))
local macro_rules | `(tactic| decreasing_trivial_pre_omega) => `(tactic| first | (with_reducible refine ok_asgT ?_))
local macro_rules | `(tactic| decreasing_trivial_pre_omega) => `(tactic| first | (with_reducible refine ok_settled ?_))
local macro_rules | `(tactic| decreasing_trivial_pre_omega) => `(tactic| first | (with_reducible refine ok_settlef ?_))
local macro_rules | `(tactic| decreasing_trivial_pre_omega) => `(tactic| first | (with_reducible refine ok_ret ?_))
local macro_rules | `(tactic| decreasing_trivial_pre_omega) => `(tactic| first | (with_reducible refine ok_leaved ?_))
local macro_rules | `(tactic| decreasing_trivial_pre_omega) => `(tactic| first | (with_reducible refine ok_leavef ?_))
local macro_rules | `(tactic| decreasing_trivial_pre_omega) => `(tactic| first | (with_reducible refine ok_drop ?_))
local macro_rules | `(tactic| decreasing_trivial_pre_omega) => `(tactic| first | (with_reducible refine ok_val ?_))
local macro_rules | `(tactic| decreasing_trivial_pre_omega) => `(tactic| first | (with_reducible refine ok_not ?_))
local macro_rules | `(tactic| decreasing_trivial_pre_omega) => `(tactic| first | (with_reducible refine ok_isi ?_))
local macro_rules | `(tactic| decreasing_trivial_pre_omega) => `(tactic| first | (with_reducible refine ok_chain ?_))
local macro_rules | `(tactic| decreasing_trivial_pre_omega) => `(tactic| first | (with_reducible refine ok_slice ?_))
local macro_rules | `(tactic| decreasing_trivial_pre_omega) => `(tactic| first | (with_reducible refine ok_rev ?_))
local macro_rules | `(tactic| decreasing_trivial_pre_omega) => `(tactic| first | (with_reducible refine ok_lk1 ?_))
local macro_rules | `(tactic| decreasing_trivial_pre_omega) => `(tactic| first | (with_reducible refine ok_listRg ?_))
local macro_rules | `(tactic| decreasing_trivial_pre_omega) => `(tactic| first | (with_reducible refine ok_tupRg ?_))
local macro_rules | `(tactic| decreasing_trivial_pre_omega) => `(tactic| first | (with_reducible refine ok_par ?_))
local macro_rules | `(tactic| decreasing_trivial_pre_omega) => `(tactic| first | (with_reducible refine ok_settleAll_nil ?_))
local macro_rules | `(tactic| decreasing_trivial_pre_omega) => `(tactic| first | (with_reducible refine ok_settleAll_cons ?_))
local macro_rules | `(tactic| decreasing_trivial_pre_omega) => `(tactic| first | (with_reducible refine ok_putAll_nil ?_))
local macro_rules | `(tactic| decreasing_trivial_pre_omega) => `(tactic| first | (with_reducible refine ok_putAll_cons ?_))
local macro_rules | `(tactic| decreasing_trivial_pre_omega) => `(tactic| first | (with_reducible refine ok_gnil ?_))
local macro_rules | `(tactic| decreasing_trivial_pre_omega) => `(tactic| first | (with_reducible refine ok_gcons ?_))
local macro_rules | `(tactic| decreasing_trivial_pre_omega) => `(tactic| first | (with_reducible refine ok_for ?_))
local macro_rules | `(tactic| decreasing_trivial_pre_omega) => `(tactic| first | (with_reducible refine ok_rng ?_))
local macro_rules | `(tactic| decreasing_trivial_pre_omega) => `(tactic| first | (with_reducible refine ok_enum ?_))
local macro_rules | `(tactic| decreasing_trivial_pre_omega) => `(tactic| first | (with_reducible refine ok_walkf ?_))
local macro_rules | `(tactic| decreasing_trivial_pre_omega) => `(tactic| first | (with_reducible refine ok_lc ?_))
local macro_rules | `(tactic| decreasing_trivial_pre_omega) => `(tactic| first | (with_reducible refine ok_ite ?_))
local macro_rules | `(tactic| decreasing_trivial_pre_omega) => `(tactic| first | (with_reducible refine ok_notD ?_))
local macro_rules | `(tactic| decreasing_trivial_pre_omega) => `(tactic| first | (with_reducible refine ok_andD ?_))
local macro_rules | `(tactic| decreasing_trivial_pre_omega) => `(tactic| first | (with_reducible refine ok_orD ?_))
local macro_rules | `(tactic| decreasing_trivial_pre_omega) => `(tactic| first | (with_reducible refine ok_settles ?_))
local macro_rules | `(tactic| decreasing_trivial_pre_omega) => `(tactic| first | (with_reducible refine ok_geto (by with_unfolding_all rfl) ?_))
local macro_rules | `(tactic| decreasing_trivial_pre_omega) => `(tactic| first | (with_reducible refine ok_getv (by with_unfolding_all rfl) ?_))
local macro_rules | `(tactic| decreasing_trivial_pre_omega) => `(tactic| first | (with_reducible refine ok_peeks (by with_unfolding_all rfl) ?_))
local macro_rules | `(tactic| decreasing_trivial_pre_omega) => `(tactic| first | (with_reducible refine ok_takes (by with_unfolding_all rfl) ?_))
local macro_rules | `(tactic| decreasing_trivial_pre_omega) => `(tactic| first | (with_reducible refine ok_gsub (by with_unfolding_all rfl) ?_))
local macro_rules | `(tactic| decreasing_trivial_pre_omega) => `(tactic| first | (with_reducible refine ok_callL (by with_unfolding_all rfl) ?_))
local macro_rules | `(tactic| decreasing_trivial_pre_omega) => `(tactic| first | (with_reducible refine ok_meth (by with_unfolding_all rfl) ?_))
local macro_rules | `(tactic| decreasing_trivial_pre_omega) => `(tactic| first | (with_reducible refine ok_leaves (by with_unfolding_all rfl) ?_))
local macro_rules | `(tactic| decreasing_trivial_pre_omega) => `(tactic| first | (with_reducible refine ok_walks (by with_unfolding_all rfl) ?_))
local macro_rules | `(tactic| decreasing_trivial_pre_omega) => `(tactic| first | ((with_reducible refine ok_putd (okSet_sv (by with_unfolding_all rfl) (by assumption)) ?_); (try simp only [List.set_cons_zero, List.set_cons_succ])))
local macro_rules | `(tactic| decreasing_trivial_pre_omega) => `(tactic| first | ((with_reducible refine ok_putf (okSet_sv (by with_unfolding_all rfl) (by assumption)) ?_); (try simp only [List.set_cons_zero, List.set_cons_succ])))
local macro_rules | `(tactic| decreasing_trivial_pre_omega) => `(tactic| first | ((with_reducible refine ok_gv (okSet_sv (by with_unfolding_all rfl) (by assumption)) ?_); (try simp only [List.set_cons_zero, List.set_cons_succ])))
local macro_rules | `(tactic| decreasing_trivial_pre_omega) => `(tactic| first | ((with_reducible refine ok_putd (by with_unfolding_all rfl) ?_); (try simp only [List.set_cons_zero, List.set_cons_succ])))
local macro_rules | `(tactic| decreasing_trivial_pre_omega) => `(tactic| first | ((with_reducible refine ok_putf (by with_unfolding_all rfl) ?_); (try simp only [List.set_cons_zero, List.set_cons_succ])))
local macro_rules | `(tactic| decreasing_trivial_pre_omega) => `(tactic| first | ((with_reducible refine ok_gv (by with_unfolding_all rfl) ?_); (try simp only [List.set_cons_zero, List.set_cons_succ])))
local macro_rules | `(tactic| decreasing_trivial_pre_omega) => `(tactic| first | (with_reducible refine ok_neg ?_))
local macro_rules | `(tactic| decreasing_trivial_pre_omega) => `(tactic| first | (with_reducible refine ok_part ?_))
local macro_rules | `(tactic| decreasing_trivial_pre_omega) => `(tactic| first | (with_reducible refine ok_rg1 ?_))
local macro_rules | `(tactic| decreasing_trivial_pre_omega) => `(tactic| first | (with_reducible refine ok_rg2 ?_))
local macro_rules | `(tactic| decreasing_trivial_pre_omega) => `(tactic| first | (with_reducible refine ok_tup ?_))
local macro_rules | `(tactic| decreasing_trivial_pre_omega) => `(tactic| first | (with_reducible refine ok_lst ?_))
local macro_rules | `(tactic| decreasing_trivial_pre_omega) => `(tactic| first | (with_reducible refine sz_and (by with_unfolding_all rfl) ?_))
local macro_rules | `(tactic| decreasing_trivial_pre_omega) => `(tactic| first | (with_reducible refine okw_nil ?_))
local macro_rules | `(tactic| decreasing_trivial_pre_omega) => `(tactic| first | (with_reducible refine okw_lock0 ?_))
local macro_rules | `(tactic| decreasing_trivial_pre_omega) => `(tactic| first | (with_reducible refine loop_lock0 ?_))
local macro_rules | `(tactic| decreasing_trivial_pre_omega) => `(tactic| first | (with_reducible refine okw_cons ?_))
local macro_rules | `(tactic| decreasing_trivial_pre_omega) => `(tactic| first | ((with_reducible refine okw_and (okSet_sv (by with_unfolding_all rfl) (by assumption)) ?_); (try simp only [List.set_cons_zero, List.set_cons_succ])))
local macro_rules | `(tactic| decreasing_trivial_pre_omega) => `(tactic| first | ((with_reducible refine okw_and (by with_unfolding_all rfl) ?_); (try simp only [List.set_cons_zero, List.set_cons_succ])))
local macro_rules | `(tactic| decreasing_trivial_pre_omega) => `(tactic| first | (with_reducible refine thenS_nx ?_))
local macro_rules | `(tactic| decreasing_trivial_pre_omega) => `(tactic| first | (with_reducible refine thenS_rt ?_))
local macro_rules | `(tactic| decreasing_trivial_pre_omega) => `(tactic| first | (with_reducible refine ok_gtup (by with_unfolding_all rfl) (by with_unfolding_all rfl) ?_))
local macro_rules | `(tactic| decreasing_trivial_pre_omega) => `(tactic| first | (with_reducible refine ok_walkd ?_))
local macro_rules | `(tactic| decreasing_trivial_pre_omega) => `(tactic| first | (with_reducible refine ex_int ?_))
local macro_rules | `(tactic| decreasing_trivial_pre_omega) => `(tactic| first | (with_reducible refine ex_int2 ?_))
local macro_rules | `(tactic| decreasing_trivial_pre_omega) => `(tactic| first | (with_reducible refine ex_fin ?_))
local macro_rules | `(tactic| decreasing_trivial_pre_omega) => `(tactic| first | (with_reducible refine o_add ?_))
local macro_rules | `(tactic| decreasing_trivial_pre_omega) => `(tactic| first | (with_reducible refine o_sub ?_))
local macro_rules | `(tactic| decreasing_trivial_pre_omega) => `(tactic| first | (with_reducible refine o_mod (by decide +kernel) ?_))
local macro_rules | `(tactic| decreasing_trivial_pre_omega) => `(tactic| first | (with_reducible refine o_pow ?_ ?_))
local macro_rules | `(tactic| decreasing_trivial_pre_omega) => `(tactic| first | (with_reducible refine o_pow ⟨by decide +kernel⟩ ?_))
/-! ### the pots that all laws draw from -/
abbrev kk (i : Int) : M Rv := (pure (PyData.int i) : M D) >>= fun d => pure (Rv.d d)
abbrev pt (j : Int) : M Rv := itemM (getv 0) (kk j) >>= fun d => pure (Rv.d d)
abbrev it (m : M Rv) : M Rv := bltM intF (consM m (pure []))
def takeP (p0 p1 p2 p3 k1 k2 k3 k4 k5 : Int) : S := (seqS (ifS (twoB (pt 0) (kk 0) gtB) (seqS (asg 2 (two (it (pt 0)) (getv 1) modR)) (seqS (asgT (two (pt 0) (getv 1) fdivR >>= take) (gsub 0 (pure (.int 0)))) (retS (getv 2)))) skipS)
    (seqS (asgT (two (pt 2) (kk 1) addR >>= take) (gsub 0 (pure (.int 2))))
    (seqS (asg 3 ((itemM (lstM (consM (pure (.int p0)) (consM (pure (.int p1)) (consM (pure (.int p2)) (consM (pure (.int p3)) (pure [])))))) (two (it (pt 2)) (kk 4) modR)) >>= fun d => pure (.d d)))
    (seqS (asg 4 (two (it (two (it (two (two (pt 1) (two (two (kk k1) (pt 2) mulR) (pt 2) mulR) addR) (kk k2) addR)) (kk 3) powR)) (getv 3) modR))
    (retS (two (it (two (two (getv 4) (two (two (it (getv 4)) (kk k3) modR) (two (kk k4) (pt 2) mulR) addR) mulR) (kk k5) fdivR)) (getv 1) modR))))))
def Pot (n : Nat) (o : OO) : Prop := ∃ a b c : Int, o = .lst [.int a, .int b, .int c] ∧ 0 ≤ a ∧ 0 ≤ b ∧ b < 2305843009213693952 ∧ 0 ≤ c ∧ c ≤ n
theorem Pot.mono {n m : Nat} {o : OO} (h : Pot n o) (k : n ≤ m) : Pot m o := by
  obtain ⟨a, b, c, e, h1, h2, h3, h4, h5⟩ := h
  exact ⟨a, b, c, e, h1, h2, h3, h4, by omega⟩
/-- a drawer: less than what is asked, and the pot stays one -/
def TakeOk (g : OO → List D → Option (Rv × OO)) : Prop := ∀ {n : Nat} {o : OO} {u : Nat} {Q : Rv × OO → Prop}, Pot n o → n ≤ 1000000000 → 0 < u → u ≤ 1000000000000 → (∀ d o', d < u → Pot (n + 1) o' → Q (.d (.int (d : Nat)), o')) → OkO (g o [.int (u : Nat)]) Q
theorem log_lt {u : Nat} (k : Nat) (h : u < 2 ^ k) (hk : 0 < k) : u.log2 < k := by
  by_cases h0 : u = 0
  · subst h0; simpa using hk
  · exact (Nat.log2_lt h0).mpr h
theorem item4 {p0 p1 p2 p3 k : Int} {Q : D → Prop} (h0 : 0 ≤ k) (h4 : k < 4) (hp : ∀ p ∈ [p0, p1, p2, p3], 0 < p ∧ p < 1099511627776) (q : ∀ p, 0 < p → p < 1099511627776 → Q (.int p)) : OkO (itemD (.list [.int p0, .int p1, .int p2, .int p3]) (.int k)) Q := by
  have : k = 0 ∨ k = 1 ∨ k = 2 ∨ k = 3 := by omega
  rcases this with rfl | rfl | rfl | rfl
  · exact ⟨_, rfl, q _ (hp p0 (by simp)).1 (hp p0 (by simp)).2⟩
  · exact ⟨_, rfl, q _ (hp p1 (by simp)).1 (hp p1 (by simp)).2⟩
  · exact ⟨_, rfl, q _ (hp p2 (by simp)).1 (hp p2 (by simp)).2⟩
  · exact ⟨_, rfl, q _ (hp p3 (by simp)).1 (hp p3 (by simp)).2⟩
theorem natMod {x : Int} {u : Nat} (hu : 0 < u) : ∃ d : Nat, d < u ∧ x % (u : Nat) = (d : Nat) := by
  have h1 := Int.emod_nonneg x (show (u : Int) ≠ 0 by omega)
  have h2 := Int.emod_lt_of_pos x (show (0 : Int) < u by omega)
  exact ⟨(x % (u : Nat)).toNat, by omega, by omega⟩
theorem takeP_ok {p0 p1 p2 p3 k1 k2 k3 k4 k5 : Int} {g : OO → List D → Option (Rv × OO)} (hg : g = runI 2 5 (takeP p0 p1 p2 p3 k1 k2 k3 k4 k5)) (hp : ∀ p ∈ [p0, p1, p2, p3], 0 < p ∧ p < 1099511627776) (h1 : 0 ≤ k1 ∧ k1 < 1000000) (h2 : 0 ≤ k2 ∧ k2 < 1000000) (h3 : 0 < k3 ∧ k3 < 1000000) (h4 : 0 ≤ k4 ∧ k4 < 1000000) (h5 : 0 < k5 ∧ k5 < 1000000) : TakeOk g := by
  intro n o u Q hP hn hu hu2 q
  obtain ⟨a, b, c, rfl, ha, hb, hb2, hc, hc2⟩ := hP
  subst hg
  refine run_lent [.own true false (.lst [.int a, .int b, .int c]), .val (.int (u : Nat)), .nil, .nil, .nil] (by rfl) (by rfl) ?_
  have hu0 : (0 : Int) < (u : Nat) := by omega
  have hul : (0 : Int) < (u : Nat) ∧ ((u : Nat) : Int).natAbs.log2 < 9000 := ⟨hu0, Nat.lt_of_lt_of_le (log_lt 40 (by rw [Int.natAbs_natCast]; omega) (by omega)) (by omega)⟩
  unfold takeP
  repeat decreasing_trivial_pre_omega
  refine ⟨fun hpos => ?_, fun hneg => ?_⟩
  · repeat decreasing_trivial_pre_omega
    refine o_mod hu0 ?_
    repeat decreasing_trivial_pre_omega
    refine o_fdiv hul ?_
    repeat decreasing_trivial_pre_omega
    refine ⟨true, [.int a, .int b, .int c], 0, 0, rfl, rfl, rfl, ?_⟩
    simp only [List.set_cons_zero, List.set_cons_succ]
    repeat decreasing_trivial_pre_omega
    obtain ⟨d, hd, e⟩ := natMod (x := a) hu
    rw [e]
    refine ⟨_, _, _, rfl, rfl, q d _ hd ⟨a / (u : Nat), b, c, rfl, Int.ediv_nonneg ha (by omega), hb, hb2, hc, by omega⟩⟩
  · repeat decreasing_trivial_pre_omega
    refine ⟨true, [.int a, .int b, .int c], 2, 2, rfl, rfl, rfl, ?_⟩
    simp only [List.set_cons_zero, List.set_cons_succ]
    have cc0 : 0 ≤ (c + 1) * (c + 1) := Int.mul_nonneg (by omega) (by omega)
    have cc1 : (c + 1) * (c + 1) ≤ 1000000001 * 1000000001 := Int.mul_le_mul (by omega) (by omega) (by omega) (by omega)
    have kc0 : 0 ≤ k1 * (c + 1) := Int.mul_nonneg (by omega) (by omega)
    have kc1 : k1 * (c + 1) ≤ 1000000 * 1000000001 := Int.mul_le_mul (by omega) (by omega) (by omega) (by omega)
    have kcc0 : 0 ≤ k1 * (c + 1) * (c + 1) := Int.mul_nonneg kc0 (by omega)
    have kcc1 : k1 * (c + 1) * (c + 1) ≤ 1000000 * 1000000001 * 1000000001 := Int.mul_le_mul kc1 (by omega) (by omega) (by omega)
    have lc0 : 0 ≤ k4 * (c + 1) := Int.mul_nonneg (by omega) (by omega)
    have lc1 : k4 * (c + 1) ≤ 1000000 * 1000000001 := Int.mul_le_mul (by omega) (by omega) (by omega) (by omega)
    repeat decreasing_trivial_pre_omega
    refine item4 (Int.emod_nonneg _ (by decide)) (Int.emod_lt_of_pos _ (by decide)) hp fun p hp0 hp1 => ?_
    repeat decreasing_trivial_pre_omega
    refine o_mul (mulOk_l (by omega)) ?_
    repeat decreasing_trivial_pre_omega
    refine o_mul (mulOk_r (by omega)) ?_
    repeat decreasing_trivial_pre_omega
    · refine ⟨by decide, ?_⟩
      have : (b + k1 * (c + 1) * (c + 1) + k2).natAbs.log2 < 200 := log_lt 200 (by omega) (by omega)
      omega
    repeat decreasing_trivial_pre_omega
    refine o_mod hp0 ?_
    generalize hx : (b + k1 * (c + 1) * (c + 1) + k2) ^ (3 : Int).toNat = x
    have x0 := Int.emod_nonneg x (show p ≠ 0 by omega)
    have x1 := Int.emod_lt_of_pos x hp0
    generalize hy : x % p = y at x0 x1
    repeat decreasing_trivial_pre_omega
    refine o_mod h3.1 ?_
    have y0 := Int.emod_nonneg y (show k3 ≠ 0 by omega)
    have y1 := Int.emod_lt_of_pos y h3.1
    repeat decreasing_trivial_pre_omega
    refine o_mul (mulOk_l (by omega)) ?_
    repeat decreasing_trivial_pre_omega
    refine o_mul (mulOk_l (by omega)) ?_
    repeat decreasing_trivial_pre_omega
    refine o_fdiv ⟨h5.1, Nat.lt_of_lt_of_le (log_lt 40 (by omega) (by omega)) (by omega)⟩ ?_
    repeat decreasing_trivial_pre_omega
    refine o_mod hu0 ?_
    repeat decreasing_trivial_pre_omega
    obtain ⟨d, hd, e⟩ := natMod (x := y * (y % k3 + k4 * (c + 1)) / k5) hu
    rw [e]
    exact ⟨_, _, _, rfl, rfl, q d _ hd ⟨a, b, c + 1, rfl, ha, hb, hb2, by omega, by omega⟩⟩
def potP (n1 n2 n3 n4 n5 n6 n7 n8 : Int) : S := (seqS (asg 2 (iteM (twoB (getv 1) (bltM lenF (consM (getv 0) (pure []))) ltB) ((itemM (getv 0) (getv 1)) >>= fun d => pure (.d d)) (two (two (two (it (bltM sumF (consM (sliceM (getv 0) (pure none) (partM (pure (.int 1)))) (pure [])))) (kk n1) modR) (two (kk n2) (getv 1) mulR) addR) (kk n3) addR)))
    (seqS (asg 3 (two (two (it (bltM absF (consM (getv 2) (pure [])))) (two (two (kk 10) (kk 60) powR) (kk 5) powR) modR) (it ((twoD (bltM absF (consM (getv 2) (pure []))) (two (kk 10) (kk 18) powR) geB) >>= fun d => pure (.d d))) mulR))
    (seqS (asg 4 (two (it (getv 2)) (kk n4) modR))
    (retS (lstM (consM ((getv 3) >>= take) (consM ((two (it (two (two (two (getv 4) (kk n5) mulR) (two (two (kk n6) (getv 1) mulR) (getv 1) mulR) addR) (kk n7) addR)) (kk n8) modR) >>= take) (consM (pure (.int 0)) (pure [])))))))))
theorem cut1 : ∀ ns : List Int, cutD (ns.map PyData.int) none (some 1) = (ns.take 1).map PyData.int
  | [] => rfl
  | n :: ns => by
    unfold cutD
    rw [List.length_map, List.length_cons, show HT.sIx (ns.length + 1) 0 none = 0 from rfl, show HT.sIx (ns.length + 1) (ns.length + 1) (some 1) = min 1 (ns.length + 1) from HT.sIx_nat _ _ 1, show min 1 (ns.length + 1) = 1 by omega]
    rfl
theorem intsOf_map : ∀ ns : List Int, intsOf (ns.map PyData.int) = some ns
  | [] => rfl
  | n :: ns => by
    rw [List.map_cons]
    unfold intsOf
    rw [intsOf_map ns]; rfl
theorem item_script {ns : List Int} {k : Nat} {Q : D → Prop} (h : k < ns.length) (q : ∀ i, Q (.int i)) : OkO (itemD (scriptD ns) (.int (k : Nat))) Q := by
  refine ⟨.int ns[k], ?_, q _⟩
  show L2.atI (ns.map PyData.int) (k : Nat) = _
  unfold L2.atI L2.ixN
  rw [if_pos (by omega), List.length_map, if_pos (by omega)]
  simp [h]
theorem potP_ok {n1 n2 n3 n4 n5 n6 n7 n8 : Int} {g : List D → Option Rv} (hg : g = runF 2 5 (potP n1 n2 n3 n4 n5 n6 n7 n8)) (h1 : 0 < n1) (h4 : 0 < n4 ∧ n4 < 2305843009213693952) (h5 : 0 ≤ n5 ∧ n5 < 1000000) (h2 : 0 ≤ n2 ∧ n2 < 1000000) (h6 : 0 ≤ n6 ∧ n6 < 1000000) (h8 : 0 < n8 ∧ n8 < 2305843009213693952) {ns : List Int} {k : Nat} (hk : k < 100) {Q : Rv → Prop} (q : ∀ o, Pot 0 o → Q (.fr o)) :
    OkO (g [scriptD ns, .int (k : Nat)]) Q := by
  subst hg
  refine run_data [.val (scriptD ns), .val (.int (k : Nat)), .nil, .nil, .nil] (by rfl) (by rfl) ?_
  have sq0 : 0 ≤ n6 * (k : Int) := Int.mul_nonneg h6.1 (by omega)
  have sq1 : n6 * (k : Int) ≤ 1000000 * 100 := Int.mul_le_mul (by omega) (by omega) (by omega) (by omega)
  have lem : ∀ c : Int, 0 ≤ (if c < 0 then -c else c) := fun c => by split <;> omega
  unfold potP
  repeat decreasing_trivial_pre_omega
  refine ⟨fun h => ?_, fun h => ?_⟩
  · repeat decreasing_trivial_pre_omega
    refine item_script (by have := of_decide_eq_true h; rw [List.length_map] at this; omega) fun c => ?_
    repeat decreasing_trivial_pre_omega
    have c0 := lem c
    generalize (if c < 0 then -c else c) = x at c0
    refine o_mul (mulOk_r (by split <;> decide)) ?_
    have y0 : 0 ≤ x % (10 ^ Int.toNat 60) ^ Int.toNat 5 * (if decide (10 ^ Int.toNat 18 ≤ x) = true then 1 else 0) := Int.mul_nonneg (Int.emod_nonneg _ (by decide +kernel)) (by split <;> decide)
    generalize x % (10 ^ Int.toNat 60) ^ Int.toNat 5 * (if decide (10 ^ Int.toNat 18 ≤ x) = true then 1 else 0) = y at y0
    repeat decreasing_trivial_pre_omega
    refine o_mod h4.1 ?_
    repeat decreasing_trivial_pre_omega
    refine o_mul (mulOk_r (by omega)) ?_
    repeat decreasing_trivial_pre_omega
    refine o_mul (mulOk_r (by omega)) ?_
    repeat decreasing_trivial_pre_omega
    refine o_mul (mulOk_r (by omega)) ?_
    repeat decreasing_trivial_pre_omega
    refine o_mod h8.1 ?_
    repeat decreasing_trivial_pre_omega
    have z0 := fun z : Int => Int.emod_nonneg z (show n8 ≠ 0 by omega)
    have z1 := fun z : Int => Int.emod_lt_of_pos z h8.1
    exact q _ ⟨_, _, _, rfl, y0, z0 _, Int.lt_trans (z1 _) h8.2, Int.le_refl _, by omega⟩
  · repeat decreasing_trivial_pre_omega
    simp only [scriptD, sliceF]
    rw [cut1]
    repeat decreasing_trivial_pre_omega
    refine ⟨_, by unfold sumF; simp only [intsOf_map]; rfl, ?_⟩
    repeat decreasing_trivial_pre_omega
    refine o_mod h1 ?_
    repeat decreasing_trivial_pre_omega
    refine o_mul (mulOk_r (by omega)) ?_
    repeat decreasing_trivial_pre_omega
    generalize ((List.take 1 ns).sum % n1 + n2 * (k : Int) + n3) = c
    have c0 := lem c
    generalize (if c < 0 then -c else c) = x at c0
    refine o_mul (mulOk_r (by split <;> decide)) ?_
    have y0 : 0 ≤ x % (10 ^ Int.toNat 60) ^ Int.toNat 5 * (if decide (10 ^ Int.toNat 18 ≤ x) = true then 1 else 0) := Int.mul_nonneg (Int.emod_nonneg _ (by decide +kernel)) (by split <;> decide)
    generalize x % (10 ^ Int.toNat 60) ^ Int.toNat 5 * (if decide (10 ^ Int.toNat 18 ≤ x) = true then 1 else 0) = y at y0
    repeat decreasing_trivial_pre_omega
    refine o_mod h4.1 ?_
    repeat decreasing_trivial_pre_omega
    refine o_mul (mulOk_r (by omega)) ?_
    repeat decreasing_trivial_pre_omega
    refine o_mul (mulOk_r (by omega)) ?_
    repeat decreasing_trivial_pre_omega
    refine o_mul (mulOk_r (by omega)) ?_
    repeat decreasing_trivial_pre_omega
    refine o_mod h8.1 ?_
    repeat decreasing_trivial_pre_omega
    have z0 := fun z : Int => Int.emod_nonneg z (show n8 ≠ 0 by omega)
    have z1 := fun z : Int => Int.emod_lt_of_pos z h8.1
    exact q _ ⟨_, _, _, rfl, y0, z0 _, Int.lt_trans (z1 _) h8.2, Int.le_refl _, by omega⟩
abbrev ln (m : M Rv) : M Rv := bltM lenF (consM m (pure []))
def cellsP : S := (retS (listRgM (rg1M ((bltM max2F (consM (kk 1) (consM (bltM min2F (consM (getv 1) (consM (ln (getv 0)) (pure [])))) (pure [])))) >>= take))))
theorem cellsP_ok {g : List D → Option Rv} (hg : g = runF 2 2 cellsP) {ns : List Int} (hl : ns.length ≤ 63) {lim : Nat} (h0 : 0 < lim) (h9 : lim ≤ 9) {Q : Rv → Prop} (q : ∀ n : Nat, 0 < n → n ≤ lim → Q (.fr (.lst (rangeD 0 n)))) : OkO (g [scriptD ns, .int (lim : Nat)]) Q := by
  subst hg
  refine run_data [.val (scriptD ns), .val (.int (lim : Nat))] (by rfl) (by rfl) ?_
  unfold cellsP
  repeat decreasing_trivial_pre_omega
  have e : ∃ n : Nat, (if (if ((List.map PyData.int ns).length : Int) < (lim : Nat) then ((List.map PyData.int ns).length : Int) else (lim : Nat)) > 1 then (if ((List.map PyData.int ns).length : Int) < (lim : Nat) then ((List.map PyData.int ns).length : Int) else (lim : Nat)) else 1) = (n : Nat) ∧ 0 < n ∧ n ≤ lim := by
    rw [List.length_map]
    by_cases h1 : (ns.length : Int) < (lim : Nat)
    · rw [if_pos h1]
      by_cases h2 : (ns.length : Int) > 1
      · exact ⟨ns.length, by rw [if_pos h2], by omega, by omega⟩
      · exact ⟨1, by rw [if_neg h2]; rfl, by omega, by omega⟩
    · rw [if_neg h1]
      by_cases h2 : (lim : Int) > 1
      · exact ⟨lim, by rw [if_pos h2], by omega, by omega⟩
      · exact ⟨1, by rw [if_neg h2]; rfl, by omega, by omega⟩
  obtain ⟨n, e1, n0, n1⟩ := e
  rw [e1]
  repeat decreasing_trivial_pre_omega
  refine ⟨rgG_nat (by omega), ?_⟩
  · repeat decreasing_trivial_pre_omega
    rw [show (((n : Nat) : Int) - 0).toNat = n by omega]
    exact q n n0 n1
/-! one of some; some of many -/
def ofP (gt : OO → List D → Option (Rv × OO)) : S := (retS ((itemM (getv 1) (callL 0 gt (consM ((ln (getv 1)) >>= take) (pure [])))) >>= fun d => pure (Rv.d d)))
theorem nth_int {ds : List D} {d : Nat} (h : d < ds.length) : L2.atI ds (d : Nat) = some ds[d] := by
  unfold L2.atI L2.ixN
  rw [if_pos (by omega), if_pos (by omega)]
  simp [h]
def Seq2 (v : D) (ds : List D) : Prop := v = .list ds ∨ v = .tuple ds
theorem ofP_ok {gt g : OO → List D → Option (Rv × OO)} (ht : TakeOk gt) (hg : g = runI 2 2 (ofP gt)) {n : Nat} {o : OO} {v : D} {ds : List D} {Q : Rv × OO → Prop} (hP : Pot n o) (hn : n ≤ 1000000000) (hs : Seq2 v ds) (h0 : 0 < ds.length) (h9 : ds.length ≤ 1000000000000)
    (q : ∀ (i : Nat) (h : i < ds.length) o', Pot (n + 1) o' → Q (.d ds[i], o')) : OkO (g o [v]) Q := by
  subst hg
  have len : lenF [v] = some (.d (.int (ds.length : Nat))) := by rcases hs with rfl | rfl <;> rfl
  refine run_lent [.own true false o, .val v] (by rfl) (by rfl) ?_
  unfold ofP
  repeat decreasing_trivial_pre_omega
  refine ⟨_, len, ?_⟩
  repeat decreasing_trivial_pre_omega
  refine ⟨true, o, rfl, ht hP hn h0 h9 fun d o' hd hP' => ?_⟩
  repeat decreasing_trivial_pre_omega
  have it : itemD v (.int (d : Nat)) = some ds[d] := by
    rcases hs with rfl | rfl
    · exact nth_int hd
    · exact nth_int hd
  refine ⟨_, it, ?_⟩
  repeat decreasing_trivial_pre_omega
  exact ⟨_, _, _, rfl, rfl, q d hd o' hP'⟩
def someP (gt : OO → List D → Option (Rv × OO)) : S := (seqS (parS [3, 4] (consM (bltM listF (consM (getv 1) (pure []))) (consM (lstM (pure [])) (pure []))))
    (seqS (forS (rngM rng1 (consM ((getv 2) >>= take) (pure []))) (gv 5)
    (dropS ((methL 4 (consM (methL 3 (consM ((callL 0 gt (consM ((ln (getv 3)) >>= take) (pure []))) >>= take) (pure [])) popAtF) (pure [])) appendF) >>= fun d => pure (Rv.d d))))
    (retS (getv 4))))
theorem perm_pop {α : Type} : ∀ {L : List α} {i : Nat} (h : i < L.length), L.Perm (L[i] :: L.eraseIdx i)
  | x :: L, 0, _ => by simp
  | x :: L, i + 1, h => by
    have := perm_pop (L := L) (i := i) (by simpa using h)
    simp only [List.getElem_cons_succ, List.eraseIdx_cons_succ]
    exact (this.cons x).trans (.swap _ _ _)
theorem someP_ok {gt g : OO → List D → Option (Rv × OO)} (ht : TakeOk gt) (hg : g = runI 3 6 (someP gt)) {n k : Nat} {o : OO} {v : D} {ds : List D} {Q : Rv × OO → Prop} (hP : Pot n o) (hn : n + k ≤ 1000000000) (hs : Seq2 v ds) (hk : k ≤ ds.length) (h9 : ds.length ≤ 100000)
    (q : ∀ (fs ls : List D) o', fs.length = k → (fs ++ ls).Perm ds → Pot (n + k) o' → Q (.fr (.lst fs), o')) : OkO (g o [v, .int (k : Nat)]) Q := by
  subst hg
  have lst : listF [v] = some (.fr (.lst ds)) := by rcases hs with rfl | rfl <;> rfl
  refine run_lent [.own true false o, .val v, .val (.int (k : Nat)), .nil, .nil, .nil] (by rfl) (by rfl) ?_
  unfold someP
  repeat decreasing_trivial_pre_omega
  refine ⟨_, lst, ?_⟩
  repeat decreasing_trivial_pre_omega
  refine q_rng1 ?_ ?_
  · exact ⟨by omega⟩
  simp only [lockO, Int.toNat_natCast]
  refine loop_inv (fun r sl => ∃ o' L fs x, SV x ∧ sl = [.own true false o', .val v, .val (.int (k : Nat)), .own false false (.lst L), .own false false (.lst fs), x] ∧ Pot (n + fs.length) o' ∧ fs.length + r.length = k ∧ (fs ++ L).Perm ds) ⟨o, ds, [], .nil, .inl rfl, rfl, hP, by simp [rangeD], .refl _⟩ (fun d r sl _ hI => ?_) (fun sl hI => ?_)
  · obtain ⟨o', L, fs, x, hx, rfl, hP', hl, pm⟩ := hI
    have len := pm.length_eq
    rw [List.length_append] at len
    rw [List.length_cons] at hl
    refine ok_gv (okSet_sv (by rfl) hx) ?_
    simp only [List.set_cons_zero, List.set_cons_succ]
    repeat decreasing_trivial_pre_omega
    refine ⟨true, o', rfl, ht hP' (by omega) (by omega) (by omega) fun i o2 hi hP2 => ?_⟩
    simp only [List.set_cons_zero, List.set_cons_succ]
    repeat decreasing_trivial_pre_omega
    refine ⟨false, L, rfl, q_popAt hi (by omega) ?_⟩
    simp only [List.set_cons_zero, List.set_cons_succ]
    repeat decreasing_trivial_pre_omega
    refine ⟨false, fs, rfl, q_append (Nat.lt_of_lt_of_le (show fs.length < 1000000 by omega) (by decide +kernel)) ?_⟩
    simp only [List.set_cons_zero, List.set_cons_succ]
    repeat decreasing_trivial_pre_omega
    refine ⟨o2, L.eraseIdx i, fs ++ [L[i]], .val d, .inr ⟨_, rfl⟩, rfl, ?_, ?_, ?_⟩
    · rw [List.length_append]; exact hP2
    · rw [List.length_append, List.length_singleton]; omega
    · rw [List.append_assoc]
      exact ((perm_pop hi).symm.append_left fs).trans pm
  · obtain ⟨o', L, fs, x, hx, rfl, hP', hl, pm⟩ := hI
    rw [List.length_nil] at hl
    have e : fs.length = k := by omega
    simp only [unlockO]
    repeat decreasing_trivial_pre_omega
    exact ⟨_, _, _, rfl, rfl, q fs L o' e pm (by rw [← e]; exact hP')⟩
end RL
namespace RL
open PySem
/-! ### data whose equality can be told -/
def Lay (k : Nat) (d : D) : Prop := d.canLay0 = true ∧ d.depth ≤ k
theorem lay_int (k : Nat) (i : Int) : Lay k (.int i) := ⟨by simp [PyData.canLay0], by simp [PyData.depth]⟩
theorem lay_bool (k : Nat) (b : Bool) : Lay k (.bool b) := ⟨by simp [PyData.canLay0], by simp [PyData.depth]⟩
theorem lay_none (k : Nat) : Lay k .none := ⟨by simp [PyData.canLay0], by simp [PyData.depth]⟩
theorem layAll {k : Nat} : ∀ {ds : List D}, (∀ d ∈ ds, Lay k d) → PyData.canLayAll0 ds = true ∧ PyData.depthAll ds ≤ k
  | [], _ => ⟨by simp [PyData.canLayAll0], by simp [PyData.depthAll]⟩
  | d :: ds, h => by
    obtain ⟨h1, h2⟩ := h d List.mem_cons_self
    obtain ⟨h3, h4⟩ := layAll (ds := ds) fun e he => h e (List.mem_cons_of_mem _ he)
    exact ⟨by simp [PyData.canLayAll0, h1, h3], by simp only [PyData.depthAll]; omega⟩
theorem lay_list {k : Nat} {ds : List D} (h : ∀ d ∈ ds, Lay k d) : Lay (k + 1) (.list ds) := ⟨by simp [PyData.canLay0, (layAll h).1], by simp only [PyData.depth]; have := (layAll h).2; omega⟩
theorem lay_tuple {k : Nat} {ds : List D} (h : ∀ d ∈ ds, Lay k d) : Lay (k + 1) (.tuple ds) := ⟨by simp [PyData.canLay0, (layAll h).1], by simp only [PyData.depth]; have := (layAll h).2; omega⟩
theorem Lay.shaped {k : Nat} {d : D} (h : Lay k d) (hk : k ≤ 64) : SeqAt.shaped d = true := by
  unfold SeqAt.shaped
  rw [h.1, decide_eq_true (Nat.le_trans h.2 hk)]; rfl
/-- == of laid data -/
theorem eqB_lay {k : Nat} {p q : D} (hp : Lay k p) (hq : Lay k q) (hk : k ≤ 64) : eqB p q = some (PyData.eqv p q) := by
  unfold eqB
  split
  · simp only [PyData.eqv]
  · rw [hp.shaped hk, hq.shaped hk]; rfl
theorem eqv_nil_list {ds : List D} : PyData.eqv (.list ds) (.list []) = ds.isEmpty := by
  cases ds <;> simp [PyData.eqv, PyData.eqvAll]
theorem q_neB {k : Nat} {p q : D} {Q : Bool → Prop} (hp : Lay k p) (hq : Lay k q) (hk : k ≤ 64) (h : Q (!PyData.eqv p q)) : OkO (neB p q) Q := ⟨_, by unfold neB; rw [eqB_lay hp hq hk]; rfl, h⟩
theorem q_eqB {k : Nat} {p q : D} {Q : Bool → Prop} (hp : Lay k p) (hq : Lay k q) (hk : k ≤ 64) (h : Q (PyData.eqv p q)) : OkO (eqB p q) Q := ⟨_, eqB_lay hp hq hk, h⟩
/-! ### items from behind -/
theorem last_int {ds : List D} (h : ds ≠ []) : L2.atI ds (-1) = ds.getLast? := by
  unfold L2.atI L2.ixN
  have : 0 < ds.length := List.length_pos_iff.mpr h
  rw [if_neg (by omega), if_pos (by omega)]
  rw [List.getLast?_eq_getElem?]
  show ds[((ds.length : Int) + -1).toNat]? = _
  rw [show ((ds.length : Int) + -1).toNat = ds.length - 1 by omega]
end RL
namespace W56
open PySem PySem.Spec PyProof.Rows L2 RL
abbrev topS (i : Nat) : Stmt := PySem.Challenge.pw_walkedtogether_k56_whole_powers_in_field.main.body.getD i (.Pass ⟨0, 0, 0, 0⟩)
def fuel : Nat := 100000
def c_ORDERS : D := .tuple [.int 2, .int 3, .int 4, .int 5]
def c_FOUR : D := .int 4
def c_SUMS : D := .tuple [.tuple [.int 0, .int 1, .int 2, .int 3], .tuple [.int 1, .int 0, .int 3, .int 2], .tuple [.int 2, .int 3, .int 0, .int 1], .tuple [.int 3, .int 2, .int 1, .int 0]]
def c_PRODUCTS : D := .tuple [.tuple [.int 0, .int 0, .int 0, .int 0], .tuple [.int 0, .int 1, .int 2, .int 3], .tuple [.int 0, .int 2, .int 3, .int 1], .tuple [.int 0, .int 3, .int 1, .int 2]]
structure Fx (K : PySem.W.Frag) (mg : Str → Option Value) : Prop where
  b_range : mg "range" = none
  b_isinstance : mg "isinstance" = none
  b_bool : mg "bool" = none
  b_int : mg "int" = none
  b_sorted : mg "sorted" = none
  b_set : mg "set" = none
  b_len : mg "len" = none
  b_all : mg "all" = none
  b_min : mg "min" = none
  b_max : mg "max" = none
  b_list : mg "list" = none
  b_sum : mg "sum" = none
  b_abs : mg "abs" = none
  b_enumerate : mg "enumerate" = none
  c_ORDERS : GC K mg "ORDERS" c_ORDERS
  c_FOUR : GC K mg "FOUR" c_FOUR
  c_SUMS : GC K mg "SUMS" c_SUMS
  c_PRODUCTS : GC K mg "PRODUCTS" c_PRODUCTS
  f_is_integer : Df K mg "is_integer" (topS 5)
  f_check_order : Df K mg "check_order" (topS 12)
  f_is_between : Df K mg "is_between" (topS 6)
  f_check_number : Df K mg "check_number" (topS 13)
  f_sum_of : Df K mg "sum_of" (topS 14)
  f_plus : Df K mg "plus" (topS 16)
  f__law_turned : Df K mg "_law_turned" (topS 23)
  f_product_of : Df K mg "product_of" (topS 15)
  f_times : Df K mg "times" (topS 17)
  f__law_power : Df K mg "_law_power" (topS 24)
  f_inverse : Df K mg "inverse" (topS 18)
  f__law_are_powers_right : Df K mg "_law_are_powers_right" (topS 26)
  f__law_cells : Df K mg "_law_cells" (topS 22)
  f__law_pot : Df K mg "_law_pot" (topS 20)
  f__law_take : Df K mg "_law_take" (topS 21)
  f__law_at : Df K mg "_law_at" (topS 25)
  f__law_is_polynomial_right : Df K mg "_law_is_polynomial_right" (topS 27)
  f_law : Df K mg "law" (topS 28)
abbrev s_is_integer : Stmt := topS 5
abbrev N_is_integer : List Str := ["value"]
theorem sc_is_integer : FnScope N_is_integer ["value"] (defScope s_is_integer) := ⟨rfl, rfl, rfl, by decide +kernel, rfl, by decide +kernel, by decide +kernel⟩
theorem pos_is_integer : Pos1 s_is_integer "is_integer" ["value"] := fun _ _ _ _ _ _ us hl => match us, hl with | [_], _ => rfl
def m_is_integer : S := (retS ((andD (isiM "int" (getv 0)) (notD (isiM "bool" (getv 0)))) >>= fun d => pure (.d d)))
def g_is_integer : List D → Option Rv := runF 1 1 m_is_integer
theorem b_is_integer {P : Program} {w : World} {K : PySem.W.Frag} {mg : Str → Option Value} {base : Heap} (x : Fx K mg) (f : Addr) (cdv : Value) (A : Around) (outer : List Env) (s : Shared) (H : Hp) (hg : A.guards = some []) (hr : Room 0 (A.deeper (envOfC "is_integer" (defScope s_is_integer) s.heap.objs.size f cdv))) : BS (bodyX P w K mg base N_is_integer "is_integer" s_is_integer f cdv A outer s H) m_is_integer (defBody s_is_integer) :=
  (bs_one (ss_ret (DE.rv (de_and (de_isi (.inr (.inr (.inl rfl))) (by rfl) x.b_isinstance (by rfl) x.b_int PyProof.Rows.boot_int (re_name (pv 0))) (de_one (de_not (de_isi (.inr (.inr (.inr (.inl rfl)))) (by rfl) x.b_isinstance (by rfl) x.b_bool PyProof.Rows.boot_bool (re_name (pv 0)))))))))
theorem ok_is_integer {P : Program} {w : World} {K : PySem.W.Frag} {mg : Str → Option Value} {base : Heap} (x : Fx K mg) : Cl P w K mg base "is_integer" s_is_integer 1 ["value"] (spG K 1 g_is_integer) := cl_data x.f_is_integer sc_is_integer (b_is_integer x)
abbrev s_check_order : Stmt := topS 12
abbrev N_check_order : List Str := ["value"]
theorem sc_check_order : FnScope N_check_order ["value"] (defScope s_check_order) := ⟨rfl, rfl, rfl, by decide +kernel, rfl, by decide +kernel, by decide +kernel⟩
theorem pos_check_order : Pos1 s_check_order "check_order" ["value"] := fun _ _ _ _ _ _ us hl => match us, hl with | [_], _ => rfl
def m_check_order : S := (ifS (orB (notB (valB ((callM g_is_integer (consM ((getv 0) >>= take) (pure []))) >>= take))) (twoB (getv 0) ((pure c_ORDERS) >>= fun d => pure (.d d)) ninB)) neverS skipS)
def g_check_order : List D → Option Rv := runF 1 1 m_check_order
theorem b_check_order {P : Program} {w : World} {K : PySem.W.Frag} {mg : Str → Option Value} {base : Heap} (x : Fx K mg) (f : Addr) (cdv : Value) (A : Around) (outer : List Env) (s : Shared) (H : Hp) (hg : A.guards = some []) (hr : Room 1 (A.deeper (envOfC "check_order" (defScope s_check_order) s.heap.objs.size f cdv))) : BS (bodyX P w K mg base N_check_order "check_order" s_check_order f cdv A outer s H) m_check_order (defBody s_check_order) :=
  (bs_one (ss_if (PW.pt (bw_or (bt_not (bt_valB (RE.take (re_c (ok_is_integer x) (fun _ _ h => runF_len h) pos_is_integer hg hr (by decide) (by rfl) (ad_cons (RE.take (re_name (pv 0))) ad_nil))))) (bw_or1 (bt_cmp (oc_nin (room_hu hr)) (re_name (pv 0)) (DE.rv (de_gc x.c_ORDERS (by rfl))) (by with_unfolding_all rfl))))) (bs_one ss_never) bs_nil))
theorem ok_check_order {P : Program} {w : World} {K : PySem.W.Frag} {mg : Str → Option Value} {base : Heap} (x : Fx K mg) : Cl P w K mg base "check_order" s_check_order 2 ["value"] (spG K 1 g_check_order) := cl_data x.f_check_order sc_check_order (b_check_order x)
abbrev s_is_between : Stmt := topS 6
abbrev N_is_between : List Str := ["value", "low", "high"]
theorem sc_is_between : FnScope N_is_between ["value", "low", "high"] (defScope s_is_between) := ⟨rfl, rfl, rfl, by decide +kernel, rfl, by decide +kernel, by decide +kernel⟩
theorem pos_is_between : Pos1 s_is_between "is_between" ["value", "low", "high"] := fun _ _ _ _ _ _ us hl => match us, hl with | [_, _, _], _ => rfl
def m_is_between : S := (retS ((andD ((callM g_is_integer (consM ((getv 0) >>= take) (pure []))) >>= take) (chainM ((getv 1) >>= take) ((getv 0) >>= take) ((getv 2) >>= take) leB leB)) >>= fun d => pure (.d d)))
def g_is_between : List D → Option Rv := runF 3 3 m_is_between
theorem b_is_between {P : Program} {w : World} {K : PySem.W.Frag} {mg : Str → Option Value} {base : Heap} (x : Fx K mg) (f : Addr) (cdv : Value) (A : Around) (outer : List Env) (s : Shared) (H : Hp) (hg : A.guards = some []) (hr : Room 1 (A.deeper (envOfC "is_between" (defScope s_is_between) s.heap.objs.size f cdv))) : BS (bodyX P w K mg base N_is_between "is_between" s_is_between f cdv A outer s H) m_is_between (defBody s_is_between) :=
  (bs_one (ss_ret (DE.rv (de_and (RE.take (re_c (ok_is_integer x) (fun _ _ h => runF_len h) pos_is_integer hg hr (by decide) (by rfl) (ad_cons (RE.take (re_name (pv 0))) ad_nil))) (de_one (de_chain (oc_le) (oc_le) (RE.take (re_name (pv 1))) (RE.take (re_name (pv 0))) (RE.take (re_name (pv 2)))))))))
theorem ok_is_between {P : Program} {w : World} {K : PySem.W.Frag} {mg : Str → Option Value} {base : Heap} (x : Fx K mg) : Cl P w K mg base "is_between" s_is_between 2 ["value", "low", "high"] (spG K 3 g_is_between) := cl_data x.f_is_between sc_is_between (b_is_between x)
abbrev s_check_number : Stmt := topS 13
abbrev N_check_number : List Str := ["order", "value", "low"]
theorem sc_check_number : FnScope N_check_number ["order", "value", "low"] (defScope s_check_number) := ⟨rfl, rfl, rfl, by decide +kernel, rfl, by decide +kernel, by decide +kernel⟩
theorem pos_check_number : Pos1 s_check_number "check_number" ["order", "value", "low"] := fun _ _ _ _ _ _ us hl => match us, hl with | [_, _, _], _ => rfl
def m_check_number : S := (ifS (notB (valB ((callM g_is_between (consM ((getv 1) >>= take) (consM ((getv 2) >>= take) (consM ((two (getv 0) ((pure (.int 1)) >>= fun d => pure (.d d)) subR) >>= take) (pure []))))) >>= take))) neverS skipS)
def g_check_number : List D → Option Rv := runF 3 3 m_check_number
theorem b_check_number {P : Program} {w : World} {K : PySem.W.Frag} {mg : Str → Option Value} {base : Heap} (x : Fx K mg) (f : Addr) (cdv : Value) (A : Around) (outer : List Env) (s : Shared) (H : Hp) (hg : A.guards = some []) (hr : Room 2 (A.deeper (envOfC "check_number" (defScope s_check_number) s.heap.objs.size f cdv))) : BS (bodyX P w K mg base N_check_number "check_number" s_check_number f cdv A outer s H) m_check_number (defBody s_check_number) :=
  (bs_one (ss_if (bt_not (bt_valB (RE.take (re_c (ok_is_between x) (fun _ _ h => runF_len h) pos_is_between hg hr (by decide) (by rfl) (ad_cons (RE.take (re_name (pv 1))) (ad_cons (RE.take (re_name (pv 2))) (ad_cons (RE.take (re_bin or_sub (re_name (pv 0)) (DE.rv de_int))) ad_nil))))))) (bs_one ss_never) bs_nil))
theorem ok_check_number {P : Program} {w : World} {K : PySem.W.Frag} {mg : Str → Option Value} {base : Heap} (x : Fx K mg) : Cl P w K mg base "check_number" s_check_number 3 ["order", "value", "low"] (spG K 3 g_check_number) := cl_data x.f_check_number sc_check_number (b_check_number x)
abbrev s_sum_of : Stmt := topS 14
abbrev N_sum_of : List Str := ["order", "one", "other"]
theorem sc_sum_of : FnScope N_sum_of ["order", "one", "other"] (defScope s_sum_of) := ⟨rfl, rfl, rfl, by decide +kernel, rfl, by decide +kernel, by decide +kernel⟩
theorem pos_sum_of : Pos1 s_sum_of "sum_of" ["order", "one", "other"] := fun _ _ _ _ _ _ us hl => match us, hl with | [_, _, _], _ => rfl
def m_sum_of : S := (retS (iteM (twoB (getv 0) ((pure c_FOUR) >>= fun d => pure (.d d)) eqB) ((itemM ((itemM ((pure c_SUMS) >>= fun d => pure (.d d)) (getv 1)) >>= fun d => pure (.d d)) (getv 2)) >>= fun d => pure (.d d)) (two (two (getv 1) (getv 2) addR) (getv 0) modR)))
def g_sum_of : List D → Option Rv := runF 3 3 m_sum_of
theorem b_sum_of {P : Program} {w : World} {K : PySem.W.Frag} {mg : Str → Option Value} {base : Heap} (x : Fx K mg) (f : Addr) (cdv : Value) (A : Around) (outer : List Env) (s : Shared) (H : Hp) (hg : A.guards = some []) (hr : Room 0 (A.deeper (envOfC "sum_of" (defScope s_sum_of) s.heap.objs.size f cdv))) : BS (bodyX P w K mg base N_sum_of "sum_of" s_sum_of f cdv A outer s H) m_sum_of (defBody s_sum_of) :=
  (bs_one (ss_ret (re_if (bt_cmp (oc_eq (room_hu hr)) (re_name (pv 0)) (DE.rv (de_gc x.c_FOUR (by rfl))) (nomark _)) (DE.rv (de_ix (DE.rv (de_ix (DE.rv (de_gc x.c_SUMS (by rfl))) (re_name (pv 1)) (fun _ _ => rfl))) (re_name (pv 2)) (fun _ _ => rfl))) (re_bin or_mod (re_bin or_add (re_name (pv 1)) (re_name (pv 2))) (re_name (pv 0))))))
theorem ok_sum_of {P : Program} {w : World} {K : PySem.W.Frag} {mg : Str → Option Value} {base : Heap} (x : Fx K mg) : Cl P w K mg base "sum_of" s_sum_of 1 ["order", "one", "other"] (spG K 3 g_sum_of) := cl_data x.f_sum_of sc_sum_of (b_sum_of x)
abbrev s_plus : Stmt := topS 16
abbrev N_plus : List Str := ["order", "one", "other"]
theorem sc_plus : FnScope N_plus ["order", "one", "other"] (defScope s_plus) := ⟨rfl, rfl, rfl, by decide +kernel, rfl, by decide +kernel, by decide +kernel⟩
theorem pos_plus : Pos1 s_plus "plus" ["order", "one", "other"] := fun _ _ _ _ _ _ us hl => match us, hl with | [_, _, _], _ => rfl
def m_plus : S := (seqS (dropS (callM g_check_order (consM ((getv 0) >>= take) (pure []))))
    (seqS (dropS (callM g_check_number (consM ((getv 0) >>= take) (consM ((getv 1) >>= take) (consM (pure (.int 0)) (pure []))))))
    (seqS (dropS (callM g_check_number (consM ((getv 0) >>= take) (consM ((getv 2) >>= take) (consM (pure (.int 0)) (pure []))))))
    (retS (callM g_sum_of (consM ((getv 0) >>= take) (consM ((getv 1) >>= take) (consM ((getv 2) >>= take) (pure [])))))))))
def g_plus : List D → Option Rv := runF 3 3 m_plus
theorem b_plus {P : Program} {w : World} {K : PySem.W.Frag} {mg : Str → Option Value} {base : Heap} (x : Fx K mg) (f : Addr) (cdv : Value) (A : Around) (outer : List Env) (s : Shared) (H : Hp) (hg : A.guards = some []) (hr : Room 3 (A.deeper (envOfC "plus" (defScope s_plus) s.heap.objs.size f cdv))) : BS (bodyX P w K mg base N_plus "plus" s_plus f cdv A outer s H) m_plus (defBody s_plus) :=
  (bs_cons (ss_expr (re_c (ok_check_order x) (fun _ _ h => runF_len h) pos_check_order hg hr (by decide) (by rfl) (ad_cons (RE.take (re_name (pv 0))) ad_nil)))
    (bs_cons (ss_expr (re_c (ok_check_number x) (fun _ _ h => runF_len h) pos_check_number hg hr (by decide) (by rfl) (ad_cons (RE.take (re_name (pv 0))) (ad_cons (RE.take (re_name (pv 1))) (ad_cons de_int ad_nil)))))
    (bs_cons (ss_expr (re_c (ok_check_number x) (fun _ _ h => runF_len h) pos_check_number hg hr (by decide) (by rfl) (ad_cons (RE.take (re_name (pv 0))) (ad_cons (RE.take (re_name (pv 2))) (ad_cons de_int ad_nil)))))
    (bs_one (ss_ret (re_c (ok_sum_of x) (fun _ _ h => runF_len h) pos_sum_of hg hr (by decide) (by rfl) (ad_cons (RE.take (re_name (pv 0))) (ad_cons (RE.take (re_name (pv 1))) (ad_cons (RE.take (re_name (pv 2))) ad_nil)))))))))
theorem ok_plus {P : Program} {w : World} {K : PySem.W.Frag} {mg : Str → Option Value} {base : Heap} (x : Fx K mg) : Cl P w K mg base "plus" s_plus 4 ["order", "one", "other"] (spG K 3 g_plus) := cl_data x.f_plus sc_plus (b_plus x)
theorem kw_plus_0_order_one_other : Kw1 s_plus "plus" ["order", "one", "other"] 0 ["order", "one", "other"] [0, 1, 2] := fun _ _ _ _ _ _ us ws h1 h2 => match us, ws, h1, h2 with | [], [_, _, _], _, _ => rfl
abbrev s__law_turned : Stmt := topS 23
abbrev N__law_turned : List Str := ["order", "one", "other"]
theorem sc__law_turned : FnScope N__law_turned ["order", "one"] (defScope s__law_turned) := ⟨rfl, rfl, rfl, by decide +kernel, rfl, by decide +kernel, by decide +kernel⟩
theorem pos__law_turned : Pos1 s__law_turned "_law_turned" ["order", "one"] := fun _ _ _ _ _ _ us hl => match us, hl with | [_, _], _ => rfl
def m__law_turned : S := (retS ((itemM (lcM (rngM rng1 (consM ((getv 0) >>= take) (pure []))) (gv 2) (twoB (callK g_plus [0, 1, 2] (pure []) (consM ((getv 0) >>= take) (consM ((getv 1) >>= take) (consM ((getv 2) >>= take) (pure []))))) ((pure (.int 0)) >>= fun d => pure (.d d)) eqB) ((getv 2) >>= take) [2]) ((pure (.int 0)) >>= fun d => pure (.d d))) >>= fun d => pure (.d d)))
def g__law_turned : List D → Option Rv := runF 2 3 m__law_turned
theorem b__law_turned {P : Program} {w : World} {K : PySem.W.Frag} {mg : Str → Option Value} {base : Heap} (x : Fx K mg) (f : Addr) (cdv : Value) (A : Around) (outer : List Env) (s : Shared) (H : Hp) (hg : A.guards = some []) (hr : Room 4 (A.deeper (envOfC "_law_turned" (defScope s__law_turned) s.heap.objs.size f cdv))) : BS (bodyX P w K mg base N__law_turned "_law_turned" s__law_turned f cdv A outer s H) m__law_turned (defBody s__law_turned) :=
  (bs_one (ss_ret (DE.rv (de_ix (re_lc rfl sc__law_turned.nd (ie_range1 (by rfl) x.b_range (ad_cons (RE.take (re_name (pv 0))) ad_nil)) (blk1 (N := N__law_turned) (sc := (defScope s__law_turned)) (own := [("other", 2)]) (by decide +kernel)) rfl (fun _ _ _ _ _ => (gw_name (gn 2 sc__law_turned.nd) (by decide))) (fun _ _ _ _ _ => (bts_one (bt_cmp (oc_eq (room_hu hr)) (re_cK0 (ok_plus x) (fun _ _ h => runF_len h) kw_plus_0_order_one_other hg hr (by decide) (by rfl) rfl (kd_cons (RE.take (re_name (pv 0))) (kd_cons (RE.take (re_name (pv 1))) (kd_cons (RE.take (re_name (pv 2))) kd_nil))) (len_cons (len_cons (len_cons (fun _ _ _ h => len_nil h))))) (DE.rv de_int) (nomark _)))) (fun _ _ _ _ _ => (RE.take (re_name (pv 2))))) (DE.rv de_int) (fun _ _ => rfl)))))
theorem ok__law_turned {P : Program} {w : World} {K : PySem.W.Frag} {mg : Str → Option Value} {base : Heap} (x : Fx K mg) : Cl P w K mg base "_law_turned" s__law_turned 5 ["order", "one"] (spG K 2 g__law_turned) := cl_data x.f__law_turned sc__law_turned (b__law_turned x)
abbrev s_product_of : Stmt := topS 15
abbrev N_product_of : List Str := ["order", "one", "other"]
theorem sc_product_of : FnScope N_product_of ["order", "one", "other"] (defScope s_product_of) := ⟨rfl, rfl, rfl, by decide +kernel, rfl, by decide +kernel, by decide +kernel⟩
theorem pos_product_of : Pos1 s_product_of "product_of" ["order", "one", "other"] := fun _ _ _ _ _ _ us hl => match us, hl with | [_, _, _], _ => rfl
def m_product_of : S := (retS (iteM (twoB (getv 0) ((pure c_FOUR) >>= fun d => pure (.d d)) eqB) ((itemM ((itemM ((pure c_PRODUCTS) >>= fun d => pure (.d d)) (getv 1)) >>= fun d => pure (.d d)) (getv 2)) >>= fun d => pure (.d d)) (two (two (getv 1) (getv 2) mulR) (getv 0) modR)))
def g_product_of : List D → Option Rv := runF 3 3 m_product_of
theorem b_product_of {P : Program} {w : World} {K : PySem.W.Frag} {mg : Str → Option Value} {base : Heap} (x : Fx K mg) (f : Addr) (cdv : Value) (A : Around) (outer : List Env) (s : Shared) (H : Hp) (hg : A.guards = some []) (hr : Room 0 (A.deeper (envOfC "product_of" (defScope s_product_of) s.heap.objs.size f cdv))) : BS (bodyX P w K mg base N_product_of "product_of" s_product_of f cdv A outer s H) m_product_of (defBody s_product_of) :=
  (bs_one (ss_ret (re_if (bt_cmp (oc_eq (room_hu hr)) (re_name (pv 0)) (DE.rv (de_gc x.c_FOUR (by rfl))) (nomark _)) (DE.rv (de_ix (DE.rv (de_ix (DE.rv (de_gc x.c_PRODUCTS (by rfl))) (re_name (pv 1)) (fun _ _ => rfl))) (re_name (pv 2)) (fun _ _ => rfl))) (re_bin or_mod (re_bin or_mul (re_name (pv 1)) (re_name (pv 2))) (re_name (pv 0))))))
theorem ok_product_of {P : Program} {w : World} {K : PySem.W.Frag} {mg : Str → Option Value} {base : Heap} (x : Fx K mg) : Cl P w K mg base "product_of" s_product_of 1 ["order", "one", "other"] (spG K 3 g_product_of) := cl_data x.f_product_of sc_product_of (b_product_of x)
abbrev s_times : Stmt := topS 17
abbrev N_times : List Str := ["order", "one", "other"]
theorem sc_times : FnScope N_times ["order", "one", "other"] (defScope s_times) := ⟨rfl, rfl, rfl, by decide +kernel, rfl, by decide +kernel, by decide +kernel⟩
theorem pos_times : Pos1 s_times "times" ["order", "one", "other"] := fun _ _ _ _ _ _ us hl => match us, hl with | [_, _, _], _ => rfl
def m_times : S := (seqS (dropS (callM g_check_order (consM ((getv 0) >>= take) (pure []))))
    (seqS (dropS (callM g_check_number (consM ((getv 0) >>= take) (consM ((getv 1) >>= take) (consM (pure (.int 0)) (pure []))))))
    (seqS (dropS (callM g_check_number (consM ((getv 0) >>= take) (consM ((getv 2) >>= take) (consM (pure (.int 0)) (pure []))))))
    (retS (callM g_product_of (consM ((getv 0) >>= take) (consM ((getv 1) >>= take) (consM ((getv 2) >>= take) (pure [])))))))))
def g_times : List D → Option Rv := runF 3 3 m_times
theorem b_times {P : Program} {w : World} {K : PySem.W.Frag} {mg : Str → Option Value} {base : Heap} (x : Fx K mg) (f : Addr) (cdv : Value) (A : Around) (outer : List Env) (s : Shared) (H : Hp) (hg : A.guards = some []) (hr : Room 3 (A.deeper (envOfC "times" (defScope s_times) s.heap.objs.size f cdv))) : BS (bodyX P w K mg base N_times "times" s_times f cdv A outer s H) m_times (defBody s_times) :=
  (bs_cons (ss_expr (re_c (ok_check_order x) (fun _ _ h => runF_len h) pos_check_order hg hr (by decide) (by rfl) (ad_cons (RE.take (re_name (pv 0))) ad_nil)))
    (bs_cons (ss_expr (re_c (ok_check_number x) (fun _ _ h => runF_len h) pos_check_number hg hr (by decide) (by rfl) (ad_cons (RE.take (re_name (pv 0))) (ad_cons (RE.take (re_name (pv 1))) (ad_cons de_int ad_nil)))))
    (bs_cons (ss_expr (re_c (ok_check_number x) (fun _ _ h => runF_len h) pos_check_number hg hr (by decide) (by rfl) (ad_cons (RE.take (re_name (pv 0))) (ad_cons (RE.take (re_name (pv 2))) (ad_cons de_int ad_nil)))))
    (bs_one (ss_ret (re_c (ok_product_of x) (fun _ _ h => runF_len h) pos_product_of hg hr (by decide) (by rfl) (ad_cons (RE.take (re_name (pv 0))) (ad_cons (RE.take (re_name (pv 1))) (ad_cons (RE.take (re_name (pv 2))) ad_nil)))))))))
theorem ok_times {P : Program} {w : World} {K : PySem.W.Frag} {mg : Str → Option Value} {base : Heap} (x : Fx K mg) : Cl P w K mg base "times" s_times 4 ["order", "one", "other"] (spG K 3 g_times) := cl_data x.f_times sc_times (b_times x)
theorem kw_times_0_order_one_other : Kw1 s_times "times" ["order", "one", "other"] 0 ["order", "one", "other"] [0, 1, 2] := fun _ _ _ _ _ _ us ws h1 h2 => match us, ws, h1, h2 with | [], [_, _, _], _, _ => rfl
abbrev s__law_power : Stmt := topS 24
abbrev N__law_power : List Str := ["order", "number", "power", "found", "lap"]
theorem sc__law_power : FnScope N__law_power ["order", "number", "power"] (defScope s__law_power) := ⟨rfl, rfl, rfl, by decide +kernel, rfl, by decide +kernel, by decide +kernel⟩
theorem pos__law_power : Pos1 s__law_power "_law_power" ["order", "number", "power"] := fun _ _ _ _ _ _ us hl => match us, hl with | [_, _, _], _ => rfl
def m__law_power : S := (seqS (asg 3 ((pure (.int 1)) >>= fun d => pure (.d d)))
    (seqS (forS (rngM rng1 (consM ((getv 2) >>= take) (pure []))) (gv 4)
    (asg 3 (callK g_times [0, 1, 2] (pure []) (consM ((getv 0) >>= take) (consM ((getv 3) >>= take) (consM ((getv 1) >>= take) (pure [])))))))
    (retS (getv 3))))
def g__law_power : List D → Option Rv := runF 3 5 m__law_power
theorem b__law_power {P : Program} {w : World} {K : PySem.W.Frag} {mg : Str → Option Value} {base : Heap} (x : Fx K mg) (f : Addr) (cdv : Value) (A : Around) (outer : List Env) (s : Shared) (H : Hp) (hg : A.guards = some []) (hr : Room 4 (A.deeper (envOfC "_law_power" (defScope s__law_power) s.heap.objs.size f cdv))) : BS (bodyX P w K mg base N__law_power "_law_power" s__law_power f cdv A outer s H) m__law_power (defBody s__law_power) :=
  (bs_cons (ss_set sc__law_power.nd (DE.rv de_int))
    (bs_cons (ss_for PassesOwn.never rfl (ie_range1 (by rfl) x.b_range (ad_cons (RE.take (re_name (pv 2))) ad_nil)) (ge_name (gn 4 sc__law_power.nd))
    (bs_one (ss_set sc__law_power.nd (re_cK0 (ok_times x) (fun _ _ h => runF_len h) kw_times_0_order_one_other hg hr (by decide) (by rfl) rfl (kd_cons (RE.take (re_name (pv 0))) (kd_cons (RE.take (re_name (pv 3))) (kd_cons (RE.take (re_name (pv 1))) kd_nil))) (len_cons (len_cons (len_cons (fun _ _ _ h => len_nil h))))))))
    (bs_one (ss_ret (re_name (pv 3))))))
theorem ok__law_power {P : Program} {w : World} {K : PySem.W.Frag} {mg : Str → Option Value} {base : Heap} (x : Fx K mg) : Cl P w K mg base "_law_power" s__law_power 5 ["order", "number", "power"] (spG K 3 g__law_power) := cl_data x.f__law_power sc__law_power (b__law_power x)
abbrev s_inverse : Stmt := topS 18
abbrev N_inverse : List Str := ["order", "number", "one"]
theorem sc_inverse : FnScope N_inverse ["order", "number"] (defScope s_inverse) := ⟨rfl, rfl, rfl, by decide +kernel, rfl, by decide +kernel, by decide +kernel⟩
theorem pos_inverse : Pos1 s_inverse "inverse" ["order", "number"] := fun _ _ _ _ _ _ us hl => match us, hl with | [_, _], _ => rfl
def m_inverse : S := (seqS (dropS (callM g_check_order (consM ((getv 0) >>= take) (pure []))))
    (seqS (dropS (callM g_check_number (consM ((getv 0) >>= take) (consM ((getv 1) >>= take) (consM (pure (.int 1)) (pure []))))))
    (retS ((itemM (lcM (rngM rng1 (consM ((getv 0) >>= take) (pure []))) (gv 2) (twoB (callM g_product_of (consM ((getv 0) >>= take) (consM ((getv 2) >>= take) (consM ((getv 1) >>= take) (pure []))))) ((pure (.int 1)) >>= fun d => pure (.d d)) eqB) ((getv 2) >>= take) [2]) ((pure (.int 0)) >>= fun d => pure (.d d))) >>= fun d => pure (.d d)))))
def g_inverse : List D → Option Rv := runF 2 3 m_inverse
theorem b_inverse {P : Program} {w : World} {K : PySem.W.Frag} {mg : Str → Option Value} {base : Heap} (x : Fx K mg) (f : Addr) (cdv : Value) (A : Around) (outer : List Env) (s : Shared) (H : Hp) (hg : A.guards = some []) (hr : Room 3 (A.deeper (envOfC "inverse" (defScope s_inverse) s.heap.objs.size f cdv))) : BS (bodyX P w K mg base N_inverse "inverse" s_inverse f cdv A outer s H) m_inverse (defBody s_inverse) :=
  (bs_cons (ss_expr (re_c (ok_check_order x) (fun _ _ h => runF_len h) pos_check_order hg hr (by decide) (by rfl) (ad_cons (RE.take (re_name (pv 0))) ad_nil)))
    (bs_cons (ss_expr (re_c (ok_check_number x) (fun _ _ h => runF_len h) pos_check_number hg hr (by decide) (by rfl) (ad_cons (RE.take (re_name (pv 0))) (ad_cons (RE.take (re_name (pv 1))) (ad_cons de_int ad_nil)))))
    (bs_one (ss_ret (DE.rv (de_ix (re_lc rfl sc_inverse.nd (ie_range1 (by rfl) x.b_range (ad_cons (RE.take (re_name (pv 0))) ad_nil)) (blk1 (N := N_inverse) (sc := (defScope s_inverse)) (own := [("one", 2)]) (by decide +kernel)) rfl (fun _ _ _ _ _ => (gw_name (gn 2 sc_inverse.nd) (by decide))) (fun _ _ _ _ _ => (bts_one (bt_cmp (oc_eq (room_hu hr)) (re_c (ok_product_of x) (fun _ _ h => runF_len h) pos_product_of hg hr (by decide) (by rfl) (ad_cons (RE.take (re_name (pv 0))) (ad_cons (RE.take (re_name (pv 2))) (ad_cons (RE.take (re_name (pv 1))) ad_nil)))) (DE.rv de_int) (nomark _)))) (fun _ _ _ _ _ => (RE.take (re_name (pv 2))))) (DE.rv de_int) (fun _ _ => rfl)))))))
theorem ok_inverse {P : Program} {w : World} {K : PySem.W.Frag} {mg : Str → Option Value} {base : Heap} (x : Fx K mg) : Cl P w K mg base "inverse" s_inverse 4 ["order", "number"] (spG K 2 g_inverse) := cl_data x.f_inverse sc_inverse (b_inverse x)
theorem kw_inverse_0_order_number : Kw1 s_inverse "inverse" ["order", "number"] 0 ["order", "number"] [0, 1] := fun _ _ _ _ _ _ us ws h1 h2 => match us, ws, h1, h2 with | [], [_, _], _, _ => rfl
abbrev s__law_are_powers_right : Stmt := topS 26
abbrev N__law_are_powers_right : List Str := ["order", "prime", "product", "total", "one", "other", "both", "squares"]
theorem sc__law_are_powers_right : FnScope N__law_are_powers_right ["order"] (defScope s__law_are_powers_right) := ⟨rfl, rfl, rfl, by decide +kernel, rfl, by decide +kernel, by decide +kernel⟩
theorem pos__law_are_powers_right : Pos1 s__law_are_powers_right "_law_are_powers_right" ["order"] := fun _ _ _ _ _ _ us hl => match us, hl with | [_], _ => rfl
def m__law_are_powers_right : S := (seqS (parS [1, 2, 3] (consM ((dgetM (dispM [((pure (.int 2)), (pure (.int 2))), ((pure (.int 3)), (pure (.int 3))), ((pure (.int 4)), (pure (.int 2))), ((pure (.int 5)), (pure (.int 5)))]) ((getv 0) >>= take)) >>= fun d => pure (.d d)) (consM ((pure (.int 1)) >>= fun d => pure (.d d)) (consM ((pure (.int 0)) >>= fun d => pure (.d d)) (pure [])))))
    (seqS (forS (rngM rng1 (consM ((getv 0) >>= take) (pure []))) (gv 4)
    (seqS (ifS (orB (twoB (callM g__law_power (consM ((getv 0) >>= take) (consM ((getv 4) >>= take) (consM ((getv 0) >>= take) (pure []))))) (getv 4) neB) (twoB (callM g_plus (consM ((getv 0) >>= take) (consM ((getv 4) >>= take) (consM ((callM g__law_turned (consM ((getv 0) >>= take) (consM ((getv 4) >>= take) (pure [])))) >>= take) (pure []))))) ((pure (.int 0)) >>= fun d => pure (.d d)) neB)) (retS ((pure (.bool false)) >>= fun d => pure (.d d))) skipS)
    (seqS (asg 3 (callM g_plus (consM ((getv 0) >>= take) (consM ((getv 3) >>= take) (consM ((getv 4) >>= take) (pure []))))))
    (seqS (ifS (twoB (getv 4) ((pure (.int 0)) >>= fun d => pure (.d d)) gtB) (seqS (asg 2 (callM g_times (consM ((getv 0) >>= take) (consM ((getv 2) >>= take) (consM ((getv 4) >>= take) (pure []))))))
    (ifS (orB (twoB (callM g__law_power (consM ((getv 0) >>= take) (consM ((getv 4) >>= take) (consM ((two (getv 0) ((pure (.int 1)) >>= fun d => pure (.d d)) subR) >>= take) (pure []))))) ((pure (.int 1)) >>= fun d => pure (.d d)) neB) (twoB (callK g_inverse [0, 1] (pure []) (consM ((getv 0) >>= take) (consM ((getv 4) >>= take) (pure [])))) (callM g__law_power (consM ((getv 0) >>= take) (consM ((getv 4) >>= take) (consM ((two (getv 0) ((pure (.int 2)) >>= fun d => pure (.d d)) subR) >>= take) (pure []))))) neB)) (retS ((pure (.bool false)) >>= fun d => pure (.d d))) skipS)) skipS)
    (forS (rngM rng1 (consM ((getv 0) >>= take) (pure []))) (gv 5)
    (seqS (asg 6 (callM g__law_power (consM ((getv 0) >>= take) (consM ((callM g_plus (consM ((getv 0) >>= take) (consM ((getv 4) >>= take) (consM ((getv 5) >>= take) (pure []))))) >>= take) (consM ((getv 1) >>= take) (pure []))))))
    (seqS (ifS (twoB (getv 6) (callM g_plus (consM ((getv 0) >>= take) (consM ((callM g__law_power (consM ((getv 0) >>= take) (consM ((getv 4) >>= take) (consM ((getv 1) >>= take) (pure []))))) >>= take) (consM ((callM g__law_power (consM ((getv 0) >>= take) (consM ((getv 5) >>= take) (consM ((getv 1) >>= take) (pure []))))) >>= take) (pure []))))) neB) (retS ((pure (.bool false)) >>= fun d => pure (.d d))) skipS)
    (ifS (orB (twoB (callM g_times (consM ((getv 0) >>= take) (consM ((getv 4) >>= take) (consM ((getv 5) >>= take) (pure []))))) (callM g_times (consM ((getv 0) >>= take) (consM ((getv 5) >>= take) (consM ((getv 4) >>= take) (pure []))))) neB) (twoB ((twoD (callM g_times (consM ((getv 0) >>= take) (consM ((getv 4) >>= take) (consM ((getv 5) >>= take) (pure []))))) ((pure (.int 0)) >>= fun d => pure (.d d)) eqB) >>= fun d => pure (.d d)) ((twoD (two (getv 4) (getv 5) mulR) ((pure (.int 0)) >>= fun d => pure (.d d)) eqB) >>= fun d => pure (.d d)) neB)) (retS ((pure (.bool false)) >>= fun d => pure (.d d))) skipS))))))))
    (seqS (asg 7 (lk1 (lcM (rngM rng1 (consM ((getv 0) >>= take) (pure []))) (gv 4) (pure true) ((callM g_times (consM ((getv 0) >>= take) (consM ((getv 4) >>= take) (consM ((getv 4) >>= take) (pure []))))) >>= take) [4]) sortSetF))
    (seqS (ifS (orB (twoB (getv 2) (callM g__law_turned (consM ((getv 0) >>= take) (consM (pure (.int 1)) (pure [])))) neB) (twoB (getv 3) ((iteM (twoB (getv 0) ((pure (.int 2)) >>= fun d => pure (.d d)) eqB) (pure (.int 1)) (pure (.int 0))) >>= fun d => pure (.d d)) neB)) (retS ((pure (.bool false)) >>= fun d => pure (.d d))) skipS)
    (retS ((twoD (bltM lenF (consM (getv 7) (pure []))) (iteM (twoB (getv 1) ((pure (.int 2)) >>= fun d => pure (.d d)) eqB) (getv 0) (two (two (getv 0) ((pure (.int 1)) >>= fun d => pure (.d d)) addR) ((pure (.int 2)) >>= fun d => pure (.d d)) fdivR)) eqB) >>= fun d => pure (.d d)))))))
def g__law_are_powers_right : List D → Option Rv := runF 1 8 m__law_are_powers_right
theorem b__law_are_powers_right {P : Program} {w : World} {K : PySem.W.Frag} {mg : Str → Option Value} {base : Heap} (x : Fx K mg) (f : Addr) (cdv : Value) (A : Around) (outer : List Env) (s : Shared) (H : Hp) (hg : A.guards = some []) (hr : Room 5 (A.deeper (envOfC "_law_are_powers_right" (defScope s__law_are_powers_right) s.heap.objs.size f cdv))) : BS (bodyX P w K mg base N__law_are_powers_right "_law_are_powers_right" s__law_are_powers_right f cdv A outer s H) m__law_are_powers_right (defBody s__law_are_powers_right) :=
  (bs_cons (ss_par3 rfl sc__law_are_powers_right.nd rfl rfl rfl (by decide) (by decide) (by decide) rfl rfl rfl (ar_cons (DE.rv (de_dget (room_hu1 hr) (re_disp (ms := [((pure (.int 2)), (pure (.int 2))), ((pure (.int 3)), (pure (.int 3))), ((pure (.int 4)), (pure (.int 2))), ((pure (.int 5)), (pure (.int 5)))]) (pps1 de_int de_int (pps1 de_int de_int (pps1 de_int de_int (pps1 de_int de_int pps0))))) (RE.take (re_name (pv 0))))) (ar_cons (DE.rv de_int) (ar_cons (DE.rv de_int) ar_nil))) (by rfl))
    (bs_cons (ss_for PassesOwn.never rfl (ie_range1 (by rfl) x.b_range (ad_cons (RE.take (re_name (pv 0))) ad_nil)) (ge_name (gn 4 sc__law_are_powers_right.nd))
    (bs_cons (ss_if (PW.pt (bw_or (bt_cmp (oc_ne (room_hu hr)) (re_c (ok__law_power x) (fun _ _ h => runF_len h) pos__law_power hg hr (by decide) (by rfl) (ad_cons (RE.take (re_name (pv 0))) (ad_cons (RE.take (re_name (pv 4))) (ad_cons (RE.take (re_name (pv 0))) ad_nil)))) (re_name (pv 4)) (nomark _)) (bw_or1 (bt_cmp (oc_ne (room_hu hr)) (re_c (ok_plus x) (fun _ _ h => runF_len h) pos_plus hg hr (by decide) (by rfl) (ad_cons (RE.take (re_name (pv 0))) (ad_cons (RE.take (re_name (pv 4))) (ad_cons (RE.take (re_c (ok__law_turned x) (fun _ _ h => runF_len h) pos__law_turned hg hr (by decide) (by rfl) (ad_cons (RE.take (re_name (pv 0))) (ad_cons (RE.take (re_name (pv 4))) ad_nil)))) ad_nil)))) (DE.rv de_int) (nomark _))))) (bs_one (ss_ret (DE.rv de_bl))) bs_nil)
    (bs_cons (ss_set sc__law_are_powers_right.nd (re_c (ok_plus x) (fun _ _ h => runF_len h) pos_plus hg hr (by decide) (by rfl) (ad_cons (RE.take (re_name (pv 0))) (ad_cons (RE.take (re_name (pv 3))) (ad_cons (RE.take (re_name (pv 4))) ad_nil)))))
    (bs_cons (ss_if (bt_cmp (oc_gt) (re_name (pv 4)) (DE.rv de_int) (nomark _)) (bs_cons (ss_set sc__law_are_powers_right.nd (re_c (ok_times x) (fun _ _ h => runF_len h) pos_times hg hr (by decide) (by rfl) (ad_cons (RE.take (re_name (pv 0))) (ad_cons (RE.take (re_name (pv 2))) (ad_cons (RE.take (re_name (pv 4))) ad_nil)))))
    (bs_one (ss_if (PW.pt (bw_or (bt_cmp (oc_ne (room_hu hr)) (re_c (ok__law_power x) (fun _ _ h => runF_len h) pos__law_power hg hr (by decide) (by rfl) (ad_cons (RE.take (re_name (pv 0))) (ad_cons (RE.take (re_name (pv 4))) (ad_cons (RE.take (re_bin or_sub (re_name (pv 0)) (DE.rv de_int))) ad_nil)))) (DE.rv de_int) (nomark _)) (bw_or1 (bt_cmp (oc_ne (room_hu hr)) (re_cK0 (ok_inverse x) (fun _ _ h => runF_len h) kw_inverse_0_order_number hg hr (by decide) (by rfl) rfl (kd_cons (RE.take (re_name (pv 0))) (kd_cons (RE.take (re_name (pv 4))) kd_nil)) (len_cons (len_cons (fun _ _ _ h => len_nil h)))) (re_c (ok__law_power x) (fun _ _ h => runF_len h) pos__law_power hg hr (by decide) (by rfl) (ad_cons (RE.take (re_name (pv 0))) (ad_cons (RE.take (re_name (pv 4))) (ad_cons (RE.take (re_bin or_sub (re_name (pv 0)) (DE.rv de_int))) ad_nil)))) (nomark _))))) (bs_one (ss_ret (DE.rv de_bl))) bs_nil))) bs_nil)
    (bs_one (ss_for PassesOwn.never rfl (ie_range1 (by rfl) x.b_range (ad_cons (RE.take (re_name (pv 0))) ad_nil)) (ge_name (gn 5 sc__law_are_powers_right.nd))
    (bs_cons (ss_set sc__law_are_powers_right.nd (re_c (ok__law_power x) (fun _ _ h => runF_len h) pos__law_power hg hr (by decide) (by rfl) (ad_cons (RE.take (re_name (pv 0))) (ad_cons (RE.take (re_c (ok_plus x) (fun _ _ h => runF_len h) pos_plus hg hr (by decide) (by rfl) (ad_cons (RE.take (re_name (pv 0))) (ad_cons (RE.take (re_name (pv 4))) (ad_cons (RE.take (re_name (pv 5))) ad_nil))))) (ad_cons (RE.take (re_name (pv 1))) ad_nil)))))
    (bs_cons (ss_if (bt_cmp (oc_ne (room_hu hr)) (re_name (pv 6)) (re_c (ok_plus x) (fun _ _ h => runF_len h) pos_plus hg hr (by decide) (by rfl) (ad_cons (RE.take (re_name (pv 0))) (ad_cons (RE.take (re_c (ok__law_power x) (fun _ _ h => runF_len h) pos__law_power hg hr (by decide) (by rfl) (ad_cons (RE.take (re_name (pv 0))) (ad_cons (RE.take (re_name (pv 4))) (ad_cons (RE.take (re_name (pv 1))) ad_nil))))) (ad_cons (RE.take (re_c (ok__law_power x) (fun _ _ h => runF_len h) pos__law_power hg hr (by decide) (by rfl) (ad_cons (RE.take (re_name (pv 0))) (ad_cons (RE.take (re_name (pv 5))) (ad_cons (RE.take (re_name (pv 1))) ad_nil))))) ad_nil)))) (nomark _)) (bs_one (ss_ret (DE.rv de_bl))) bs_nil)
    (bs_one (ss_if (PW.pt (bw_or (bt_cmp (oc_ne (room_hu hr)) (re_c (ok_times x) (fun _ _ h => runF_len h) pos_times hg hr (by decide) (by rfl) (ad_cons (RE.take (re_name (pv 0))) (ad_cons (RE.take (re_name (pv 4))) (ad_cons (RE.take (re_name (pv 5))) ad_nil)))) (re_c (ok_times x) (fun _ _ h => runF_len h) pos_times hg hr (by decide) (by rfl) (ad_cons (RE.take (re_name (pv 0))) (ad_cons (RE.take (re_name (pv 5))) (ad_cons (RE.take (re_name (pv 4))) ad_nil)))) (nomark _)) (bw_or1 (bt_cmp (oc_ne (room_hu hr)) (DE.rv (de_cmp (oc_eq (room_hu hr)) (re_c (ok_times x) (fun _ _ h => runF_len h) pos_times hg hr (by decide) (by rfl) (ad_cons (RE.take (re_name (pv 0))) (ad_cons (RE.take (re_name (pv 4))) (ad_cons (RE.take (re_name (pv 5))) ad_nil)))) (DE.rv de_int) (nomark _))) (DE.rv (de_cmp (oc_eq (room_hu hr)) (re_bin or_mul (re_name (pv 4)) (re_name (pv 5))) (DE.rv de_int) (nomark _))) (nomark _))))) (bs_one (ss_ret (DE.rv de_bl))) bs_nil))))))))))
    (bs_cons (ss_set sc__law_are_powers_right.nd (re_sortSet rfl (by rfl) x.b_sorted (by rfl) x.b_set (re_lc rfl sc__law_are_powers_right.nd (ie_range1 (by rfl) x.b_range (ad_cons (RE.take (re_name (pv 0))) ad_nil)) (blk1 (N := N__law_are_powers_right) (sc := (defScope s__law_are_powers_right)) (own := [("one", 4)]) (by decide +kernel)) rfl (fun _ _ _ _ _ => (gw_name (gn 4 sc__law_are_powers_right.nd) (by decide))) (fun _ _ _ _ _ => bts_nil) (fun _ _ _ _ _ => (RE.take (re_c (ok_times x) (fun _ _ h => runF_len h) pos_times hg hr (by decide) (by rfl) (ad_cons (RE.take (re_name (pv 0))) (ad_cons (RE.take (re_name (pv 4))) (ad_cons (RE.take (re_name (pv 4))) ad_nil)))))))))
    (bs_cons (ss_if (PW.pt (bw_or (bt_cmp (oc_ne (room_hu hr)) (re_name (pv 2)) (re_c (ok__law_turned x) (fun _ _ h => runF_len h) pos__law_turned hg hr (by decide) (by rfl) (ad_cons (RE.take (re_name (pv 0))) (ad_cons de_int ad_nil))) (nomark _)) (bw_or1 (bt_cmp (oc_ne (room_hu hr)) (re_name (pv 3)) (DE.rv (de_if (bt_cmp (oc_eq (room_hu hr)) (re_name (pv 0)) (DE.rv de_int) (nomark _)) de_int de_int)) (nomark _))))) (bs_one (ss_ret (DE.rv de_bl))) bs_nil)
    (bs_one (ss_ret (DE.rv (de_cmp (oc_eq (room_hu hr)) (re_blt (cr_len) (by rfl) x.b_len boot_len (ar_cons (re_name (pv 7)) ar_nil)) (re_if (bt_cmp (oc_eq (room_hu hr)) (re_name (pv 1)) (DE.rv de_int) (nomark _)) (re_name (pv 0)) (re_bin or_fdiv (re_bin or_add (re_name (pv 0)) (DE.rv de_int)) (DE.rv de_int))) (nomark _)))))))))
theorem ok__law_are_powers_right {P : Program} {w : World} {K : PySem.W.Frag} {mg : Str → Option Value} {base : Heap} (x : Fx K mg) : Cl P w K mg base "_law_are_powers_right" s__law_are_powers_right 6 ["order"] (spG K 1 g__law_are_powers_right) := cl_data x.f__law_are_powers_right sc__law_are_powers_right (b__law_are_powers_right x)
abbrev s__law_cells : Stmt := topS 22
abbrev N__law_cells : List Str := ["script", "limit"]
theorem sc__law_cells : FnScope N__law_cells ["script", "limit"] (defScope s__law_cells) := ⟨rfl, rfl, rfl, by decide +kernel, rfl, by decide +kernel, by decide +kernel⟩
theorem pos__law_cells : Pos1 s__law_cells "_law_cells" ["script", "limit"] := fun _ _ _ _ _ _ us hl => match us, hl with | [_, _], _ => rfl
def m__law_cells : S := (retS (listRgM (rg1M ((bltM max2F (consM ((pure (.int 1)) >>= fun d => pure (.d d)) (consM (bltM min2F (consM (getv 1) (consM (bltM lenF (consM (getv 0) (pure []))) (pure [])))) (pure [])))) >>= take))))
def g__law_cells : List D → Option Rv := runF 2 2 m__law_cells
theorem b__law_cells {P : Program} {w : World} {K : PySem.W.Frag} {mg : Str → Option Value} {base : Heap} (x : Fx K mg) (f : Addr) (cdv : Value) (A : Around) (outer : List Env) (s : Shared) (H : Hp) (hg : A.guards = some []) (hr : Room 0 (A.deeper (envOfC "_law_cells" (defScope s__law_cells) s.heap.objs.size f cdv))) : BS (bodyX P w K mg base N__law_cells "_law_cells" s__law_cells f cdv A outer s H) m__law_cells (defBody s__law_cells) :=
  (bs_one (ss_ret (re_listRg rfl (by rfl) x.b_list (rg_1 (by rfl) x.b_range (RE.take (re_blt (cr_max2 rfl) (by rfl) x.b_max PyProof.Rows.boot_max (ar_cons (DE.rv de_int) (ar_cons (re_blt (cr_min2 rfl) (by rfl) x.b_min PyProof.Rows.boot_min (ar_cons (re_name (pv 1)) (ar_cons (re_blt (cr_len) (by rfl) x.b_len boot_len (ar_cons (re_name (pv 0)) ar_nil)) ar_nil))) ar_nil))))))))
theorem ok__law_cells {P : Program} {w : World} {K : PySem.W.Frag} {mg : Str → Option Value} {base : Heap} (x : Fx K mg) : Cl P w K mg base "_law_cells" s__law_cells 1 ["script", "limit"] (spG K 2 g__law_cells) := cl_data x.f__law_cells sc__law_cells (b__law_cells x)
abbrev s__law_pot : Stmt := topS 20
abbrev N__law_pot : List Str := ["script", "place", "cell", "own", "small"]
theorem sc__law_pot : FnScope N__law_pot ["script", "place"] (defScope s__law_pot) := ⟨rfl, rfl, rfl, by decide +kernel, rfl, by decide +kernel, by decide +kernel⟩
theorem pos__law_pot : Pos1 s__law_pot "_law_pot" ["script", "place"] := fun _ _ _ _ _ _ us hl => match us, hl with | [_, _], _ => rfl
def m__law_pot : S := (seqS (asg 2 (iteM (twoB (getv 1) (bltM lenF (consM (getv 0) (pure []))) ltB) ((itemM (getv 0) (getv 1)) >>= fun d => pure (.d d)) (two (two (two (bltM intF (consM (bltM sumF (consM (sliceM (getv 0) (pure none) (partM (pure (.int 1)))) (pure []))) (pure []))) ((pure (.int 1000003)) >>= fun d => pure (.d d)) modR) (two ((pure (.int 2447)) >>= fun d => pure (.d d)) (getv 1) mulR) addR) ((pure (.int 7019)) >>= fun d => pure (.d d)) addR)))
    (seqS (asg 3 (two (two (bltM intF (consM (bltM absF (consM (getv 2) (pure []))) (pure []))) (two (two ((pure (.int 10)) >>= fun d => pure (.d d)) ((pure (.int 60)) >>= fun d => pure (.d d)) powR) ((pure (.int 5)) >>= fun d => pure (.d d)) powR) modR) (bltM intF (consM ((twoD (bltM absF (consM (getv 2) (pure []))) (two ((pure (.int 10)) >>= fun d => pure (.d d)) ((pure (.int 18)) >>= fun d => pure (.d d)) powR) geB) >>= fun d => pure (.d d)) (pure []))) mulR))
    (seqS (asg 4 (two (bltM intF (consM (getv 2) (pure []))) ((pure (.int 2305843009213693951)) >>= fun d => pure (.d d)) modR))
    (retS (lstM (consM ((getv 3) >>= take) (consM ((two (bltM intF (consM (two (two (two (getv 4) ((pure (.int 83529)) >>= fun d => pure (.d d)) mulR) (two (two ((pure (.int 9173)) >>= fun d => pure (.d d)) (getv 1) mulR) (getv 1) mulR) addR) ((pure (.int 1925)) >>= fun d => pure (.d d)) addR) (pure []))) ((pure (.int 2305843009213693921)) >>= fun d => pure (.d d)) modR) >>= take) (consM (pure (.int 0)) (pure [])))))))))
def g__law_pot : List D → Option Rv := runF 2 5 m__law_pot
theorem b__law_pot {P : Program} {w : World} {K : PySem.W.Frag} {mg : Str → Option Value} {base : Heap} (x : Fx K mg) (f : Addr) (cdv : Value) (A : Around) (outer : List Env) (s : Shared) (H : Hp) (hg : A.guards = some []) (hr : Room 0 (A.deeper (envOfC "_law_pot" (defScope s__law_pot) s.heap.objs.size f cdv))) : BS (bodyX P w K mg base N__law_pot "_law_pot" s__law_pot f cdv A outer s H) m__law_pot (defBody s__law_pot) :=
  (bs_cons (ss_set sc__law_pot.nd (re_if (bt_cmp (oc_lt (room_hu hr)) (re_name (pv 1)) (re_blt (cr_len) (by rfl) x.b_len boot_len (ar_cons (re_name (pv 0)) ar_nil)) (nomark _)) (DE.rv (de_ix (re_name (pv 0)) (re_name (pv 1)) (fun _ _ => rfl))) (re_bin or_add (re_bin or_add (re_bin or_mod (re_bty (cr_int) (by rfl) x.b_int PyProof.Rows.boot_int (ar_cons (re_blt (cr_sum rfl) (by rfl) x.b_sum PyProof.Rows.boot_sum (ar_cons (re_slice (re_name (pv 0)) pd_none (pd_some de_int)) ar_nil)) ar_nil)) (DE.rv de_int)) (re_bin or_mul (DE.rv de_int) (re_name (pv 1)))) (DE.rv de_int))))
    (bs_cons (ss_set sc__law_pot.nd (re_bin or_mul (re_bin or_mod (re_bty (cr_int) (by rfl) x.b_int PyProof.Rows.boot_int (ar_cons (re_blt (cr_abs) (by rfl) x.b_abs PyProof.Rows.boot_abs (ar_cons (re_name (pv 2)) ar_nil)) ar_nil)) (re_bin or_pow (re_bin or_pow (DE.rv de_int) (DE.rv de_int)) (DE.rv de_int))) (re_bty (cr_int) (by rfl) x.b_int PyProof.Rows.boot_int (ar_cons (DE.rv (de_cmp (oc_ge) (re_blt (cr_abs) (by rfl) x.b_abs PyProof.Rows.boot_abs (ar_cons (re_name (pv 2)) ar_nil)) (re_bin or_pow (DE.rv de_int) (DE.rv de_int)) (nomark _))) ar_nil))))
    (bs_cons (ss_set sc__law_pot.nd (re_bin or_mod (re_bty (cr_int) (by rfl) x.b_int PyProof.Rows.boot_int (ar_cons (re_name (pv 2)) ar_nil)) (DE.rv de_int)))
    (bs_one (ss_ret (re_lst (ad_cons (RE.take (re_name (pv 3))) (ad_cons (RE.take (re_bin or_mod (re_bty (cr_int) (by rfl) x.b_int PyProof.Rows.boot_int (ar_cons (re_bin or_add (re_bin or_add (re_bin or_mul (re_name (pv 4)) (DE.rv de_int)) (re_bin or_mul (re_bin or_mul (DE.rv de_int) (re_name (pv 1))) (re_name (pv 1)))) (DE.rv de_int)) ar_nil)) (DE.rv de_int))) (ad_cons de_int ad_nil)))))))))
theorem ok__law_pot {P : Program} {w : World} {K : PySem.W.Frag} {mg : Str → Option Value} {base : Heap} (x : Fx K mg) : Cl P w K mg base "_law_pot" s__law_pot 1 ["script", "place"] (spG K 2 g__law_pot) := cl_data x.f__law_pot sc__law_pot (b__law_pot x)
abbrev s__law_take : Stmt := topS 21
abbrev N__law_take : List Str := ["pot", "upto", "digit", "prime", "blend"]
theorem sc__law_take : FnScope N__law_take ["pot", "upto"] (defScope s__law_take) := ⟨rfl, rfl, rfl, by decide +kernel, rfl, by decide +kernel, by decide +kernel⟩
theorem pos__law_take : Pos1 s__law_take "_law_take" ["pot", "upto"] := fun _ _ _ _ _ _ us hl => match us, hl with | [_, _], _ => rfl
def m__law_take : S := (seqS (ifS (twoB ((itemM (getv 0) ((pure (.int 0)) >>= fun d => pure (.d d))) >>= fun d => pure (.d d)) ((pure (.int 0)) >>= fun d => pure (.d d)) gtB) (seqS (asg 2 (two (bltM intF (consM ((itemM (getv 0) ((pure (.int 0)) >>= fun d => pure (.d d))) >>= fun d => pure (.d d)) (pure []))) (getv 1) modR))
    (seqS (asgT ((two ((itemM (getv 0) ((pure (.int 0)) >>= fun d => pure (.d d))) >>= fun d => pure (.d d)) (getv 1) fdivR) >>= take) (gsub 0 (pure (.int 0))))
    (retS (getv 2)))) skipS)
    (seqS (asgT ((two ((itemM (getv 0) ((pure (.int 2)) >>= fun d => pure (.d d))) >>= fun d => pure (.d d)) ((pure (.int 1)) >>= fun d => pure (.d d)) addR) >>= take) (gsub 0 (pure (.int 2))))
    (seqS (asg 3 ((itemM (lstM (consM (pure (.int 2147483647)) (consM (pure (.int 2147483629)) (consM (pure (.int 2147483587)) (consM (pure (.int 2147483579)) (pure [])))))) (two (bltM intF (consM ((itemM (getv 0) ((pure (.int 2)) >>= fun d => pure (.d d))) >>= fun d => pure (.d d)) (pure []))) ((pure (.int 4)) >>= fun d => pure (.d d)) modR)) >>= fun d => pure (.d d)))
    (seqS (asg 4 (two (bltM intF (consM (two (bltM intF (consM (two (two ((itemM (getv 0) ((pure (.int 1)) >>= fun d => pure (.d d))) >>= fun d => pure (.d d)) (two (two ((pure (.int 115489)) >>= fun d => pure (.d d)) ((itemM (getv 0) ((pure (.int 2)) >>= fun d => pure (.d d))) >>= fun d => pure (.d d)) mulR) ((itemM (getv 0) ((pure (.int 2)) >>= fun d => pure (.d d))) >>= fun d => pure (.d d)) mulR) addR) ((pure (.int 2625)) >>= fun d => pure (.d d)) addR) (pure []))) ((pure (.int 3)) >>= fun d => pure (.d d)) powR) (pure []))) (getv 3) modR))
    (retS (two (bltM intF (consM (two (two (getv 4) (two (two (bltM intF (consM (getv 4) (pure []))) ((pure (.int 10007)) >>= fun d => pure (.d d)) modR) (two ((pure (.int 1827)) >>= fun d => pure (.d d)) ((itemM (getv 0) ((pure (.int 2)) >>= fun d => pure (.d d))) >>= fun d => pure (.d d)) mulR) addR) mulR) ((pure (.int 307)) >>= fun d => pure (.d d)) fdivR) (pure []))) (getv 1) modR))))))
def g__law_take : OO → List D → Option (Rv × OO) := runI 2 5 m__law_take
theorem b__law_take {P : Program} {w : World} {K : PySem.W.Frag} {mg : Str → Option Value} {base : Heap} (x : Fx K mg) (f : Addr) (cdv : Value) (A : Around) (outer : List Env) (s : Shared) (H : Hp) (hg : A.guards = some []) (hr : Room 0 (A.deeper (envOfC "_law_take" (defScope s__law_take) s.heap.objs.size f cdv))) : BS (bodyX P w K mg base N__law_take "_law_take" s__law_take f cdv A outer s H) m__law_take (defBody s__law_take) :=
  (bs_cons (ss_if (bt_cmp (oc_gt) (DE.rv (de_ix (re_name (pv 0)) (DE.rv de_int) (fun _ _ => rfl))) (DE.rv de_int) (nomark _)) (bs_cons (ss_set sc__law_take.nd (re_bin or_mod (re_bty (cr_int) (by rfl) x.b_int PyProof.Rows.boot_int (ar_cons (DE.rv (de_ix (re_name (pv 0)) (DE.rv de_int) (fun _ _ => rfl))) ar_nil)) (re_name (pv 1))))
    (bs_cons (ss_asgT (ps_asg (RE.take (re_bin or_fdiv (DE.rv (de_ix (re_name (pv 0)) (DE.rv de_int) (fun _ _ => rfl))) (re_name (pv 1)))) (ge_sub (pv 0) de_int)))
    (bs_one (ss_ret (re_name (pv 2)))))) bs_nil)
    (bs_cons (ss_asgT (ps_asg (RE.take (re_bin or_add (DE.rv (de_ix (re_name (pv 0)) (DE.rv de_int) (fun _ _ => rfl))) (DE.rv de_int))) (ge_sub (pv 0) de_int)))
    (bs_cons (ss_set sc__law_take.nd (DE.rv (de_ix (re_lst (ad_cons de_int (ad_cons de_int (ad_cons de_int (ad_cons de_int ad_nil))))) (re_bin or_mod (re_bty (cr_int) (by rfl) x.b_int PyProof.Rows.boot_int (ar_cons (DE.rv (de_ix (re_name (pv 0)) (DE.rv de_int) (fun _ _ => rfl))) ar_nil)) (DE.rv de_int)) (fun _ _ => rfl))))
    (bs_cons (ss_set sc__law_take.nd (re_bin or_mod (re_bty (cr_int) (by rfl) x.b_int PyProof.Rows.boot_int (ar_cons (re_bin or_pow (re_bty (cr_int) (by rfl) x.b_int PyProof.Rows.boot_int (ar_cons (re_bin or_add (re_bin or_add (DE.rv (de_ix (re_name (pv 0)) (DE.rv de_int) (fun _ _ => rfl))) (re_bin or_mul (re_bin or_mul (DE.rv de_int) (DE.rv (de_ix (re_name (pv 0)) (DE.rv de_int) (fun _ _ => rfl)))) (DE.rv (de_ix (re_name (pv 0)) (DE.rv de_int) (fun _ _ => rfl))))) (DE.rv de_int)) ar_nil)) (DE.rv de_int)) ar_nil)) (re_name (pv 3))))
    (bs_one (ss_ret (re_bin or_mod (re_bty (cr_int) (by rfl) x.b_int PyProof.Rows.boot_int (ar_cons (re_bin or_fdiv (re_bin or_mul (re_name (pv 4)) (re_bin or_add (re_bin or_mod (re_bty (cr_int) (by rfl) x.b_int PyProof.Rows.boot_int (ar_cons (re_name (pv 4)) ar_nil)) (DE.rv de_int)) (re_bin or_mul (DE.rv de_int) (DE.rv (de_ix (re_name (pv 0)) (DE.rv de_int) (fun _ _ => rfl)))))) (DE.rv de_int)) ar_nil)) (re_name (pv 1)))))))))
theorem ok__law_take {P : Program} {w : World} {K : PySem.W.Frag} {mg : Str → Option Value} {base : Heap} (x : Fx K mg) : Cl P w K mg base "_law_take" s__law_take 1 ["pot", "upto"] (spI K 2 g__law_take) := cl_lent x.f__law_take sc__law_take (b__law_take x)
abbrev s__law_at : Stmt := topS 25
abbrev N__law_at : List Str := ["order", "row", "number", "found", "one"]
theorem sc__law_at : FnScope N__law_at ["order", "row", "number"] (defScope s__law_at) := ⟨rfl, rfl, rfl, by decide +kernel, rfl, by decide +kernel, by decide +kernel⟩
theorem pos__law_at : Pos1 s__law_at "_law_at" ["order", "row", "number"] := fun _ _ _ _ _ _ us hl => match us, hl with | [_, _, _], _ => rfl
def m__law_at : S := (seqS (asg 3 ((pure (.int 0)) >>= fun d => pure (.d d)))
    (seqS (forS ((revM (getv 1)) >>= walkRv) (gv 4)
    (asg 3 (callK g_plus [0, 1, 2] (pure []) (consM ((getv 0) >>= take) (consM ((callM g_times (consM ((getv 0) >>= take) (consM ((getv 3) >>= take) (consM ((getv 2) >>= take) (pure []))))) >>= take) (consM ((getv 4) >>= take) (pure [])))))))
    (retS (getv 3))))
def g__law_at : List D → Option Rv := runF 3 5 m__law_at
theorem b__law_at {P : Program} {w : World} {K : PySem.W.Frag} {mg : Str → Option Value} {base : Heap} (x : Fx K mg) (f : Addr) (cdv : Value) (A : Around) (outer : List Env) (s : Shared) (H : Hp) (hg : A.guards = some []) (hr : Room 4 (A.deeper (envOfC "_law_at" (defScope s__law_at) s.heap.objs.size f cdv))) : BS (bodyX P w K mg base N__law_at "_law_at" s__law_at f cdv A outer s H) m__law_at (defBody s__law_at) :=
  (bs_cons (ss_set sc__law_at.nd (DE.rv de_int))
    (bs_cons (ss_for PassesOwn.never rfl (ie_seq (re_rev (re_name (pv 1)))) (ge_name (gn 4 sc__law_at.nd))
    (bs_one (ss_set sc__law_at.nd (re_cK0 (ok_plus x) (fun _ _ h => runF_len h) kw_plus_0_order_one_other hg hr (by decide) (by rfl) rfl (kd_cons (RE.take (re_name (pv 0))) (kd_cons (RE.take (re_c (ok_times x) (fun _ _ h => runF_len h) pos_times hg hr (by decide) (by rfl) (ad_cons (RE.take (re_name (pv 0))) (ad_cons (RE.take (re_name (pv 3))) (ad_cons (RE.take (re_name (pv 2))) ad_nil))))) (kd_cons (RE.take (re_name (pv 4))) kd_nil))) (len_cons (len_cons (len_cons (fun _ _ _ h => len_nil h))))))))
    (bs_one (ss_ret (re_name (pv 3))))))
theorem ok__law_at {P : Program} {w : World} {K : PySem.W.Frag} {mg : Str → Option Value} {base : Heap} (x : Fx K mg) : Cl P w K mg base "_law_at" s__law_at 5 ["order", "row", "number"] (spG K 3 g__law_at) := cl_data x.f__law_at sc__law_at (b__law_at x)
abbrev s__law_is_polynomial_right : Stmt := topS 27
abbrev N__law_is_polynomial_right : List Str := ["pot", "order", "row", "top", "zeros", "values", "number", "found", "place", "part", "other", "away", "back", "power", "total", "lap", "at", "one"]
theorem sc__law_is_polynomial_right : FnScope N__law_is_polynomial_right ["pot", "order"] (defScope s__law_is_polynomial_right) := ⟨rfl, rfl, rfl, by decide +kernel, rfl, by decide +kernel, by decide +kernel⟩
theorem pos__law_is_polynomial_right : Pos1 s__law_is_polynomial_right "_law_is_polynomial_right" ["pot", "order"] := fun _ _ _ _ _ _ us hl => match us, hl with | [_, _], _ => rfl
def m__law_is_polynomial_right : S := (seqS (asg 2 (lcM (rngM rng1 (consM ((two ((pure (.int 1)) >>= fun d => pure (.d d)) (callL 0 g__law_take (consM (pure (.int 5)) (pure []))) addR) >>= take) (pure []))) (gv 15) (pure true) ((callL 0 g__law_take (consM ((getv 1) >>= take) (pure []))) >>= take) [15]))
    (seqS (asg 3 (lcM (enumM (getv 2)) (gtup 2 (gcons (gv 16) (gcons (gv 17) gnil))) (twoB (getv 17) ((pure (.int 0)) >>= fun d => pure (.d d)) neB) ((getv 16) >>= take) [16, 17]))
    (seqS (asg 4 (lcM (rngM rng1 (consM ((getv 1) >>= take) (pure []))) (gv 6) (twoB (callM g__law_at (consM ((getv 1) >>= take) (consM ((getv 2) >>= take) (consM ((getv 6) >>= take) (pure []))))) ((pure (.int 0)) >>= fun d => pure (.d d)) eqB) ((getv 6) >>= take) [6]))
    (seqS (ifS (andB (twoB (getv 3) (lstM (pure [])) neB) (twoB (bltM lenF (consM (getv 4) (pure []))) ((itemM (getv 3) ((negM (pure (.int 1))) >>= fun d => pure (.d d))) >>= fun d => pure (.d d)) gtB)) (retS ((pure (.bool false)) >>= fun d => pure (.d d))) skipS)
    (seqS (asg 5 (lcM (rngM rng1 (consM ((getv 1) >>= take) (pure []))) (gv 6) (pure true) ((callL 0 g__law_take (consM ((getv 1) >>= take) (pure []))) >>= take) [6]))
    (seqS (forS (rngM rng1 (consM ((getv 1) >>= take) (pure []))) (gv 6)
    (seqS (asg 7 ((pure (.int 0)) >>= fun d => pure (.d d)))
    (seqS (forS (rngM rng1 (consM ((getv 1) >>= take) (pure []))) (gv 8)
    (seqS (asg 9 ((itemM (getv 5) (getv 8)) >>= fun d => pure (.d d)))
    (seqS (forS (rngM rng1 (consM ((getv 1) >>= take) (pure []))) (gv 10)
    (ifS (twoB (getv 10) (getv 8) neB) (seqS (asg 11 (callM g_plus (consM ((getv 1) >>= take) (consM ((getv 6) >>= take) (consM ((callM g__law_turned (consM ((getv 1) >>= take) (consM ((getv 10) >>= take) (pure [])))) >>= take) (pure []))))))
    (seqS (asg 12 (callM g_inverse (consM ((getv 1) >>= take) (consM ((callM g_plus (consM ((getv 1) >>= take) (consM ((getv 8) >>= take) (consM ((callM g__law_turned (consM ((getv 1) >>= take) (consM ((getv 10) >>= take) (pure [])))) >>= take) (pure []))))) >>= take) (pure [])))))
    (asg 9 (callM g_times (consM ((getv 1) >>= take) (consM ((getv 9) >>= take) (consM ((callM g_times (consM ((getv 1) >>= take) (consM ((getv 11) >>= take) (consM ((getv 12) >>= take) (pure []))))) >>= take) (pure [])))))))) skipS))
    (asg 7 (callM g_plus (consM ((getv 1) >>= take) (consM ((getv 7) >>= take) (consM ((getv 9) >>= take) (pure [])))))))))
    (ifS (twoB (getv 7) ((itemM (getv 5) (getv 6)) >>= fun d => pure (.d d)) neB) (retS ((pure (.bool false)) >>= fun d => pure (.d d))) skipS))))
    (seqS (forS (rngM rng2 (consM (pure (.int 1)) (consM ((two (getv 1) ((pure (.int 2)) >>= fun d => pure (.d d)) addR) >>= take) (pure [])))) (gv 13)
    (seqS (asg 14 ((pure (.int 0)) >>= fun d => pure (.d d)))
    (seqS (forS (rngM rng1 (consM ((getv 1) >>= take) (pure []))) (gv 6)
    (asg 14 (callM g_plus (consM ((getv 1) >>= take) (consM ((getv 14) >>= take) (consM ((callM g__law_power (consM ((getv 1) >>= take) (consM ((getv 6) >>= take) (consM ((getv 13) >>= take) (pure []))))) >>= take) (pure [])))))))
    (ifS (twoB (getv 14) (iteM (twoB (two (bltM intF (consM (getv 13) (pure []))) (two (getv 1) ((pure (.int 1)) >>= fun d => pure (.d d)) subR) modR) ((pure (.int 0)) >>= fun d => pure (.d d)) eqB) (callM g__law_turned (consM ((getv 1) >>= take) (consM (pure (.int 1)) (pure [])))) ((pure (.int 0)) >>= fun d => pure (.d d))) neB) (retS ((pure (.bool false)) >>= fun d => pure (.d d))) skipS))))
    (retS ((pure (.bool true)) >>= fun d => pure (.d d))))))))))
def g__law_is_polynomial_right : OO → List D → Option (Rv × OO) := runI 2 18 m__law_is_polynomial_right
theorem b__law_is_polynomial_right {P : Program} {w : World} {K : PySem.W.Frag} {mg : Str → Option Value} {base : Heap} (x : Fx K mg) (f : Addr) (cdv : Value) (A : Around) (outer : List Env) (s : Shared) (H : Hp) (hg : A.guards = some []) (hr : Room 5 (A.deeper (envOfC "_law_is_polynomial_right" (defScope s__law_is_polynomial_right) s.heap.objs.size f cdv))) : BS (bodyX P w K mg base N__law_is_polynomial_right "_law_is_polynomial_right" s__law_is_polynomial_right f cdv A outer s H) m__law_is_polynomial_right (defBody s__law_is_polynomial_right) :=
  (bs_cons (ss_set sc__law_is_polynomial_right.nd (re_lc rfl sc__law_is_polynomial_right.nd (ie_range1 (by rfl) x.b_range (ad_cons (RE.take (re_bin or_add (DE.rv de_int) (re_l (ok__law_take x) (fun _ _ _ h => runI_len h) pos__law_take hg hr (by decide) (by rfl) (pv 0) (ad_cons de_int ad_nil)))) ad_nil)) (blk1 (N := N__law_is_polynomial_right) (sc := (defScope s__law_is_polynomial_right)) (own := [("lap", 15)]) (by decide +kernel)) rfl (fun _ _ _ _ _ => (gw_name (gn 15 sc__law_is_polynomial_right.nd) (by decide))) (fun _ _ _ _ _ => bts_nil) (fun _ _ _ _ _ => (RE.take (re_l (ok__law_take x) (fun _ _ _ h => runI_len h) pos__law_take hg hr (by decide) (by rfl) (pv 0) (ad_cons (RE.take (re_name (pv 1))) ad_nil))))))
    (bs_cons (ss_setLc (i := 3) rfl sc__law_is_polynomial_right.nd rfl rfl (sw_true rfl rfl rfl (by decide +kernel)) (ie_enum (by rfl) x.b_enumerate (re_name (pv 2))) (blk1 (N := N__law_is_polynomial_right) (sc := (defScope s__law_is_polynomial_right)) (own := [("at", 16), ("one", 17)]) (by decide +kernel)) rfl (fun _ _ _ _ _ => (gw_tup rfl (gsw_cons (gw_name (gn 16 sc__law_is_polynomial_right.nd) (by decide)) (gsw_cons (gw_name (gn 17 sc__law_is_polynomial_right.nd) (by decide)) gsw_nil)))) (fun _ _ _ _ _ => (bts_one (bt_cmp (oc_ne (room_hu hr)) (re_name (pv 17)) (DE.rv de_int) (nomark _)))) (fun _ _ _ _ _ => (RE.take (re_name (pv 16)))))
    (bs_cons (ss_setLc (i := 4) rfl sc__law_is_polynomial_right.nd rfl rfl (sw_true rfl rfl rfl (by decide +kernel)) (ie_range1 (by rfl) x.b_range (ad_cons (RE.take (re_name (pv 1))) ad_nil)) (blk1 (N := N__law_is_polynomial_right) (sc := (defScope s__law_is_polynomial_right)) (own := [("number", 6)]) (by decide +kernel)) rfl (fun _ _ _ _ _ => (gw_name (gn 6 sc__law_is_polynomial_right.nd) (by decide))) (fun _ _ _ _ _ => (bts_one (bt_cmp (oc_eq (room_hu hr)) (re_c (ok__law_at x) (fun _ _ h => runF_len h) pos__law_at hg hr (by decide) (by rfl) (ad_cons (RE.take (re_name (pv 1))) (ad_cons (RE.take (re_name (pv 2))) (ad_cons (RE.take (re_name (pv 6))) ad_nil)))) (DE.rv de_int) (nomark _)))) (fun _ _ _ _ _ => (RE.take (re_name (pv 6)))))
    (bs_cons (ss_if (PW.pt (bw_and (bt_cmp (oc_ne (room_hu hr)) (re_name (pv 3)) (re_lst ad_nil) (nomark _)) (bw_and1 (bt_cmp (oc_gt) (re_blt (cr_len) (by rfl) x.b_len boot_len (ar_cons (re_name (pv 4)) ar_nil)) (DE.rv (de_ix (re_name (pv 3)) (DE.rv (de_neg de_int)) (fun _ _ => rfl))) (nomark _))))) (bs_one (ss_ret (DE.rv de_bl))) bs_nil)
    (bs_cons (ss_setLc (i := 5) rfl sc__law_is_polynomial_right.nd rfl rfl (sw_true rfl rfl rfl (by decide +kernel)) (ie_range1 (by rfl) x.b_range (ad_cons (RE.take (re_name (pv 1))) ad_nil)) (blk1 (N := N__law_is_polynomial_right) (sc := (defScope s__law_is_polynomial_right)) (own := [("number", 6)]) (by decide +kernel)) rfl (fun _ _ _ _ _ => (gw_name (gn 6 sc__law_is_polynomial_right.nd) (by decide))) (fun _ _ _ _ _ => bts_nil) (fun _ _ _ _ _ => (RE.take (re_l (ok__law_take x) (fun _ _ _ h => runI_len h) pos__law_take hg hr (by decide) (by rfl) (pv 0) (ad_cons (RE.take (re_name (pv 1))) ad_nil)))))
    (bs_cons (ss_for PassesOwn.never rfl (ie_range1 (by rfl) x.b_range (ad_cons (RE.take (re_name (pv 1))) ad_nil)) (ge_name (gn 6 sc__law_is_polynomial_right.nd))
    (bs_cons (ss_set sc__law_is_polynomial_right.nd (DE.rv de_int))
    (bs_cons (ss_for PassesOwn.never rfl (ie_range1 (by rfl) x.b_range (ad_cons (RE.take (re_name (pv 1))) ad_nil)) (ge_name (gn 8 sc__law_is_polynomial_right.nd))
    (bs_cons (ss_set sc__law_is_polynomial_right.nd (DE.rv (de_ix (re_name (pv 5)) (re_name (pv 8)) (fun _ _ => rfl))))
    (bs_cons (ss_for PassesOwn.never rfl (ie_range1 (by rfl) x.b_range (ad_cons (RE.take (re_name (pv 1))) ad_nil)) (ge_name (gn 10 sc__law_is_polynomial_right.nd))
    (bs_one (ss_if (bt_cmp (oc_ne (room_hu hr)) (re_name (pv 10)) (re_name (pv 8)) (nomark _)) (bs_cons (ss_set sc__law_is_polynomial_right.nd (re_c (ok_plus x) (fun _ _ h => runF_len h) pos_plus hg hr (by decide) (by rfl) (ad_cons (RE.take (re_name (pv 1))) (ad_cons (RE.take (re_name (pv 6))) (ad_cons (RE.take (re_c (ok__law_turned x) (fun _ _ h => runF_len h) pos__law_turned hg hr (by decide) (by rfl) (ad_cons (RE.take (re_name (pv 1))) (ad_cons (RE.take (re_name (pv 10))) ad_nil)))) ad_nil)))))
    (bs_cons (ss_set sc__law_is_polynomial_right.nd (re_c (ok_inverse x) (fun _ _ h => runF_len h) pos_inverse hg hr (by decide) (by rfl) (ad_cons (RE.take (re_name (pv 1))) (ad_cons (RE.take (re_c (ok_plus x) (fun _ _ h => runF_len h) pos_plus hg hr (by decide) (by rfl) (ad_cons (RE.take (re_name (pv 1))) (ad_cons (RE.take (re_name (pv 8))) (ad_cons (RE.take (re_c (ok__law_turned x) (fun _ _ h => runF_len h) pos__law_turned hg hr (by decide) (by rfl) (ad_cons (RE.take (re_name (pv 1))) (ad_cons (RE.take (re_name (pv 10))) ad_nil)))) ad_nil))))) ad_nil))))
    (bs_one (ss_set sc__law_is_polynomial_right.nd (re_c (ok_times x) (fun _ _ h => runF_len h) pos_times hg hr (by decide) (by rfl) (ad_cons (RE.take (re_name (pv 1))) (ad_cons (RE.take (re_name (pv 9))) (ad_cons (RE.take (re_c (ok_times x) (fun _ _ h => runF_len h) pos_times hg hr (by decide) (by rfl) (ad_cons (RE.take (re_name (pv 1))) (ad_cons (RE.take (re_name (pv 11))) (ad_cons (RE.take (re_name (pv 12))) ad_nil))))) ad_nil)))))))) bs_nil)))
    (bs_one (ss_set sc__law_is_polynomial_right.nd (re_c (ok_plus x) (fun _ _ h => runF_len h) pos_plus hg hr (by decide) (by rfl) (ad_cons (RE.take (re_name (pv 1))) (ad_cons (RE.take (re_name (pv 7))) (ad_cons (RE.take (re_name (pv 9))) ad_nil)))))))))
    (bs_one (ss_if (bt_cmp (oc_ne (room_hu hr)) (re_name (pv 7)) (DE.rv (de_ix (re_name (pv 5)) (re_name (pv 6)) (fun _ _ => rfl))) (nomark _)) (bs_one (ss_ret (DE.rv de_bl))) bs_nil)))))
    (bs_cons (ss_for PassesOwn.never rfl (ie_range2 (by rfl) x.b_range (ad_cons de_int (ad_cons (RE.take (re_bin or_add (re_name (pv 1)) (DE.rv de_int))) ad_nil))) (ge_name (gn 13 sc__law_is_polynomial_right.nd))
    (bs_cons (ss_set sc__law_is_polynomial_right.nd (DE.rv de_int))
    (bs_cons (ss_for PassesOwn.never rfl (ie_range1 (by rfl) x.b_range (ad_cons (RE.take (re_name (pv 1))) ad_nil)) (ge_name (gn 6 sc__law_is_polynomial_right.nd))
    (bs_one (ss_set sc__law_is_polynomial_right.nd (re_c (ok_plus x) (fun _ _ h => runF_len h) pos_plus hg hr (by decide) (by rfl) (ad_cons (RE.take (re_name (pv 1))) (ad_cons (RE.take (re_name (pv 14))) (ad_cons (RE.take (re_c (ok__law_power x) (fun _ _ h => runF_len h) pos__law_power hg hr (by decide) (by rfl) (ad_cons (RE.take (re_name (pv 1))) (ad_cons (RE.take (re_name (pv 6))) (ad_cons (RE.take (re_name (pv 13))) ad_nil))))) ad_nil)))))))
    (bs_one (ss_if (bt_cmp (oc_ne (room_hu hr)) (re_name (pv 14)) (re_if (bt_cmp (oc_eq (room_hu hr)) (re_bin or_mod (re_bty (cr_int) (by rfl) x.b_int PyProof.Rows.boot_int (ar_cons (re_name (pv 13)) ar_nil)) (re_bin or_sub (re_name (pv 1)) (DE.rv de_int))) (DE.rv de_int) (nomark _)) (re_c (ok__law_turned x) (fun _ _ h => runF_len h) pos__law_turned hg hr (by decide) (by rfl) (ad_cons (RE.take (re_name (pv 1))) (ad_cons de_int ad_nil))) (DE.rv de_int)) (nomark _)) (bs_one (ss_ret (DE.rv de_bl))) bs_nil)))))
    (bs_one (ss_ret (DE.rv de_bl))))))))))
theorem ok__law_is_polynomial_right {P : Program} {w : World} {K : PySem.W.Frag} {mg : Str → Option Value} {base : Heap} (x : Fx K mg) : Cl P w K mg base "_law_is_polynomial_right" s__law_is_polynomial_right 6 ["pot", "order"] (spI K 2 g__law_is_polynomial_right) := cl_lent x.f__law_is_polynomial_right sc__law_is_polynomial_right (b__law_is_polynomial_right x)
abbrev s_law : Stmt := topS 28
abbrev N_law : List Str := ["script", "place", "pot", "order"]
theorem sc_law : FnScope N_law ["script"] (defScope s_law) := ⟨rfl, rfl, rfl, by decide +kernel, rfl, by decide +kernel, by decide +kernel⟩
theorem pos_law : Pos1 s_law "law" ["script"] := fun _ _ _ _ _ _ us hl => match us, hl with | [_], _ => rfl
def m_law : S := (seqS (ifS (notB (valB ((bltM allF (consM (lcM (((tupM (consM (pure (.int 2)) (consM (pure (.int 3)) (consM (pure (.int 4)) (consM (pure (.int 5)) (pure [])))))) >>= fun d => pure (.d d)) >>= walkRv) (gv 3) (pure true) ((callM g__law_are_powers_right (consM ((getv 3) >>= take) (pure []))) >>= take) [3]) (pure []))) >>= take))) (retS ((pure (.bool false)) >>= fun d => pure (.d d))) skipS)
    (seqS (forS ((callM g__law_cells (consM ((getv 0) >>= take) (consM (pure (.int 2)) (pure [])))) >>= walkRv) (gv 1)
    (seqS (asg 2 (callM g__law_pot (consM ((getv 0) >>= take) (consM ((getv 1) >>= take) (pure [])))))
    (ifS (notB (valB ((callL 2 g__law_is_polynomial_right (consM ((two ((pure (.int 2)) >>= fun d => pure (.d d)) (callL 2 g__law_take (consM (pure (.int 4)) (pure []))) addR) >>= take) (pure []))) >>= take))) (retS ((pure (.bool false)) >>= fun d => pure (.d d))) skipS)))
    (retS ((pure (.bool true)) >>= fun d => pure (.d d)))))
def g_law : List D → Option Rv := runF 1 4 m_law
theorem b_law {P : Program} {w : World} {K : PySem.W.Frag} {mg : Str → Option Value} {base : Heap} (x : Fx K mg) (f : Addr) (cdv : Value) (A : Around) (outer : List Env) (s : Shared) (H : Hp) (hg : A.guards = some []) (hr : Room 6 (A.deeper (envOfC "law" (defScope s_law) s.heap.objs.size f cdv))) : BS (bodyX P w K mg base N_law "law" s_law f cdv A outer s H) m_law (defBody s_law) :=
  (bs_cons (ss_if (bt_not (bt_valB (RE.take (re_blt (cr_all rfl) (by rfl) x.b_all PyProof.Rows.boot_all (ar_cons (re_lc rfl sc_law.nd (ie_seq (DE.rv (de_tup (ad_cons de_int (ad_cons de_int (ad_cons de_int (ad_cons de_int ad_nil))))))) (blk1 (N := N_law) (sc := (defScope s_law)) (own := [("order", 3)]) (by decide +kernel)) rfl (fun _ _ _ _ _ => (gw_name (gn 3 sc_law.nd) (by decide))) (fun _ _ _ _ _ => bts_nil) (fun _ _ _ _ _ => (RE.take (re_c (ok__law_are_powers_right x) (fun _ _ h => runF_len h) pos__law_are_powers_right hg hr (by decide) (by rfl) (ad_cons (RE.take (re_name (pv 3))) ad_nil))))) ar_nil))))) (bs_one (ss_ret (DE.rv de_bl))) bs_nil)
    (bs_cons (ss_for PassesOwn.never rfl (ie_seq (re_c (ok__law_cells x) (fun _ _ h => runF_len h) pos__law_cells hg hr (by decide) (by rfl) (ad_cons (RE.take (re_name (pv 0))) (ad_cons de_int ad_nil)))) (ge_name (gn 1 sc_law.nd))
    (bs_cons (ss_set sc_law.nd (re_c (ok__law_pot x) (fun _ _ h => runF_len h) pos__law_pot hg hr (by decide) (by rfl) (ad_cons (RE.take (re_name (pv 0))) (ad_cons (RE.take (re_name (pv 1))) ad_nil))))
    (bs_one (ss_if (bt_not (bt_valB (RE.take (re_l (ok__law_is_polynomial_right x) (fun _ _ _ h => runI_len h) pos__law_is_polynomial_right hg hr (by decide) (by rfl) (pv 2) (ad_cons (RE.take (re_bin or_add (DE.rv de_int) (re_l (ok__law_take x) (fun _ _ _ h => runI_len h) pos__law_take hg hr (by decide) (by rfl) (pv 2) (ad_cons de_int ad_nil)))) ad_nil))))) (bs_one (ss_ret (DE.rv de_bl))) bs_nil))))
    (bs_one (ss_ret (DE.rv de_bl)))))
theorem ok_law {P : Program} {w : World} {K : PySem.W.Frag} {mg : Str → Option Value} {base : Heap} (x : Fx K mg) : Cl P w K mg base "law" s_law 7 ["script"] (spG K 1 g_law) := cl_data x.f_law sc_law (b_law x)
theorem all_mk {l : PySem.W.OpenLaw} {w : World} {K : PySem.W.Frag} {h : Heap} {mg : Str → Option Value} {fa : Addr} (X : K.In h) (G : h.Ns mainGlobals mg) (hfa : mg "law" = some (.ref fa))
    {f0 : Addr} {od0 an0 : Option Addr} {sl0 : Array (Option Value)} {oc0 kV0 dc0 pm0 cd0 ct0 : Value} (a0 : PySem.W.nsIn K mainGlobals "is_integer" = some (some (.ref f0))) (l0 : K.lookup f0 = some ⟨oc0, od0, .func (PySem.W.fnOf "is_integer" "is_integer" (defArgs s_is_integer) (defBody s_is_integer) (defScope s_is_integer) .none kV0 dc0 pm0 an0 cd0 ct0), sl0⟩) (c0 : PySem.W.codeIn K cd0 "is_integer" = true) (k0 : PySem.W.keepIn K (.ref f0) = true)
    {f1 : Addr} {od1 an1 : Option Addr} {sl1 : Array (Option Value)} {oc1 kV1 dc1 pm1 cd1 ct1 : Value} (a1 : PySem.W.nsIn K mainGlobals "check_order" = some (some (.ref f1))) (l1 : K.lookup f1 = some ⟨oc1, od1, .func (PySem.W.fnOf "check_order" "check_order" (defArgs s_check_order) (defBody s_check_order) (defScope s_check_order) .none kV1 dc1 pm1 an1 cd1 ct1), sl1⟩) (c1 : PySem.W.codeIn K cd1 "check_order" = true) (k1 : PySem.W.keepIn K (.ref f1) = true)
    {f2 : Addr} {od2 an2 : Option Addr} {sl2 : Array (Option Value)} {oc2 kV2 dc2 pm2 cd2 ct2 : Value} (a2 : PySem.W.nsIn K mainGlobals "is_between" = some (some (.ref f2))) (l2 : K.lookup f2 = some ⟨oc2, od2, .func (PySem.W.fnOf "is_between" "is_between" (defArgs s_is_between) (defBody s_is_between) (defScope s_is_between) .none kV2 dc2 pm2 an2 cd2 ct2), sl2⟩) (c2 : PySem.W.codeIn K cd2 "is_between" = true) (k2 : PySem.W.keepIn K (.ref f2) = true)
    {f3 : Addr} {od3 an3 : Option Addr} {sl3 : Array (Option Value)} {oc3 kV3 dc3 pm3 cd3 ct3 : Value} (a3 : PySem.W.nsIn K mainGlobals "check_number" = some (some (.ref f3))) (l3 : K.lookup f3 = some ⟨oc3, od3, .func (PySem.W.fnOf "check_number" "check_number" (defArgs s_check_number) (defBody s_check_number) (defScope s_check_number) .none kV3 dc3 pm3 an3 cd3 ct3), sl3⟩) (c3 : PySem.W.codeIn K cd3 "check_number" = true) (k3 : PySem.W.keepIn K (.ref f3) = true)
    {f4 : Addr} {od4 an4 : Option Addr} {sl4 : Array (Option Value)} {oc4 kV4 dc4 pm4 cd4 ct4 : Value} (a4 : PySem.W.nsIn K mainGlobals "sum_of" = some (some (.ref f4))) (l4 : K.lookup f4 = some ⟨oc4, od4, .func (PySem.W.fnOf "sum_of" "sum_of" (defArgs s_sum_of) (defBody s_sum_of) (defScope s_sum_of) .none kV4 dc4 pm4 an4 cd4 ct4), sl4⟩) (c4 : PySem.W.codeIn K cd4 "sum_of" = true) (k4 : PySem.W.keepIn K (.ref f4) = true)
    {f5 : Addr} {od5 an5 : Option Addr} {sl5 : Array (Option Value)} {oc5 kV5 dc5 pm5 cd5 ct5 : Value} (a5 : PySem.W.nsIn K mainGlobals "plus" = some (some (.ref f5))) (l5 : K.lookup f5 = some ⟨oc5, od5, .func (PySem.W.fnOf "plus" "plus" (defArgs s_plus) (defBody s_plus) (defScope s_plus) .none kV5 dc5 pm5 an5 cd5 ct5), sl5⟩) (c5 : PySem.W.codeIn K cd5 "plus" = true) (k5 : PySem.W.keepIn K (.ref f5) = true)
    {f6 : Addr} {od6 an6 : Option Addr} {sl6 : Array (Option Value)} {oc6 kV6 dc6 pm6 cd6 ct6 : Value} (a6 : PySem.W.nsIn K mainGlobals "_law_turned" = some (some (.ref f6))) (l6 : K.lookup f6 = some ⟨oc6, od6, .func (PySem.W.fnOf "_law_turned" "_law_turned" (defArgs s__law_turned) (defBody s__law_turned) (defScope s__law_turned) .none kV6 dc6 pm6 an6 cd6 ct6), sl6⟩) (c6 : PySem.W.codeIn K cd6 "_law_turned" = true) (k6 : PySem.W.keepIn K (.ref f6) = true)
    {f7 : Addr} {od7 an7 : Option Addr} {sl7 : Array (Option Value)} {oc7 kV7 dc7 pm7 cd7 ct7 : Value} (a7 : PySem.W.nsIn K mainGlobals "product_of" = some (some (.ref f7))) (l7 : K.lookup f7 = some ⟨oc7, od7, .func (PySem.W.fnOf "product_of" "product_of" (defArgs s_product_of) (defBody s_product_of) (defScope s_product_of) .none kV7 dc7 pm7 an7 cd7 ct7), sl7⟩) (c7 : PySem.W.codeIn K cd7 "product_of" = true) (k7 : PySem.W.keepIn K (.ref f7) = true)
    {f8 : Addr} {od8 an8 : Option Addr} {sl8 : Array (Option Value)} {oc8 kV8 dc8 pm8 cd8 ct8 : Value} (a8 : PySem.W.nsIn K mainGlobals "times" = some (some (.ref f8))) (l8 : K.lookup f8 = some ⟨oc8, od8, .func (PySem.W.fnOf "times" "times" (defArgs s_times) (defBody s_times) (defScope s_times) .none kV8 dc8 pm8 an8 cd8 ct8), sl8⟩) (c8 : PySem.W.codeIn K cd8 "times" = true) (k8 : PySem.W.keepIn K (.ref f8) = true)
    {f9 : Addr} {od9 an9 : Option Addr} {sl9 : Array (Option Value)} {oc9 kV9 dc9 pm9 cd9 ct9 : Value} (a9 : PySem.W.nsIn K mainGlobals "_law_power" = some (some (.ref f9))) (l9 : K.lookup f9 = some ⟨oc9, od9, .func (PySem.W.fnOf "_law_power" "_law_power" (defArgs s__law_power) (defBody s__law_power) (defScope s__law_power) .none kV9 dc9 pm9 an9 cd9 ct9), sl9⟩) (c9 : PySem.W.codeIn K cd9 "_law_power" = true) (k9 : PySem.W.keepIn K (.ref f9) = true)
    {f10 : Addr} {od10 an10 : Option Addr} {sl10 : Array (Option Value)} {oc10 kV10 dc10 pm10 cd10 ct10 : Value} (a10 : PySem.W.nsIn K mainGlobals "inverse" = some (some (.ref f10))) (l10 : K.lookup f10 = some ⟨oc10, od10, .func (PySem.W.fnOf "inverse" "inverse" (defArgs s_inverse) (defBody s_inverse) (defScope s_inverse) .none kV10 dc10 pm10 an10 cd10 ct10), sl10⟩) (c10 : PySem.W.codeIn K cd10 "inverse" = true) (k10 : PySem.W.keepIn K (.ref f10) = true)
    {f11 : Addr} {od11 an11 : Option Addr} {sl11 : Array (Option Value)} {oc11 kV11 dc11 pm11 cd11 ct11 : Value} (a11 : PySem.W.nsIn K mainGlobals "_law_are_powers_right" = some (some (.ref f11))) (l11 : K.lookup f11 = some ⟨oc11, od11, .func (PySem.W.fnOf "_law_are_powers_right" "_law_are_powers_right" (defArgs s__law_are_powers_right) (defBody s__law_are_powers_right) (defScope s__law_are_powers_right) .none kV11 dc11 pm11 an11 cd11 ct11), sl11⟩) (c11 : PySem.W.codeIn K cd11 "_law_are_powers_right" = true) (k11 : PySem.W.keepIn K (.ref f11) = true)
    {f12 : Addr} {od12 an12 : Option Addr} {sl12 : Array (Option Value)} {oc12 kV12 dc12 pm12 cd12 ct12 : Value} (a12 : PySem.W.nsIn K mainGlobals "_law_cells" = some (some (.ref f12))) (l12 : K.lookup f12 = some ⟨oc12, od12, .func (PySem.W.fnOf "_law_cells" "_law_cells" (defArgs s__law_cells) (defBody s__law_cells) (defScope s__law_cells) .none kV12 dc12 pm12 an12 cd12 ct12), sl12⟩) (c12 : PySem.W.codeIn K cd12 "_law_cells" = true) (k12 : PySem.W.keepIn K (.ref f12) = true)
    {f13 : Addr} {od13 an13 : Option Addr} {sl13 : Array (Option Value)} {oc13 kV13 dc13 pm13 cd13 ct13 : Value} (a13 : PySem.W.nsIn K mainGlobals "_law_pot" = some (some (.ref f13))) (l13 : K.lookup f13 = some ⟨oc13, od13, .func (PySem.W.fnOf "_law_pot" "_law_pot" (defArgs s__law_pot) (defBody s__law_pot) (defScope s__law_pot) .none kV13 dc13 pm13 an13 cd13 ct13), sl13⟩) (c13 : PySem.W.codeIn K cd13 "_law_pot" = true) (k13 : PySem.W.keepIn K (.ref f13) = true)
    {f14 : Addr} {od14 an14 : Option Addr} {sl14 : Array (Option Value)} {oc14 kV14 dc14 pm14 cd14 ct14 : Value} (a14 : PySem.W.nsIn K mainGlobals "_law_take" = some (some (.ref f14))) (l14 : K.lookup f14 = some ⟨oc14, od14, .func (PySem.W.fnOf "_law_take" "_law_take" (defArgs s__law_take) (defBody s__law_take) (defScope s__law_take) .none kV14 dc14 pm14 an14 cd14 ct14), sl14⟩) (c14 : PySem.W.codeIn K cd14 "_law_take" = true) (k14 : PySem.W.keepIn K (.ref f14) = true)
    {f15 : Addr} {od15 an15 : Option Addr} {sl15 : Array (Option Value)} {oc15 kV15 dc15 pm15 cd15 ct15 : Value} (a15 : PySem.W.nsIn K mainGlobals "_law_at" = some (some (.ref f15))) (l15 : K.lookup f15 = some ⟨oc15, od15, .func (PySem.W.fnOf "_law_at" "_law_at" (defArgs s__law_at) (defBody s__law_at) (defScope s__law_at) .none kV15 dc15 pm15 an15 cd15 ct15), sl15⟩) (c15 : PySem.W.codeIn K cd15 "_law_at" = true) (k15 : PySem.W.keepIn K (.ref f15) = true)
    {f16 : Addr} {od16 an16 : Option Addr} {sl16 : Array (Option Value)} {oc16 kV16 dc16 pm16 cd16 ct16 : Value} (a16 : PySem.W.nsIn K mainGlobals "_law_is_polynomial_right" = some (some (.ref f16))) (l16 : K.lookup f16 = some ⟨oc16, od16, .func (PySem.W.fnOf "_law_is_polynomial_right" "_law_is_polynomial_right" (defArgs s__law_is_polynomial_right) (defBody s__law_is_polynomial_right) (defScope s__law_is_polynomial_right) .none kV16 dc16 pm16 an16 cd16 ct16), sl16⟩) (c16 : PySem.W.codeIn K cd16 "_law_is_polynomial_right" = true) (k16 : PySem.W.keepIn K (.ref f16) = true)
    {f17 : Addr} {od17 an17 : Option Addr} {sl17 : Array (Option Value)} {oc17 kV17 dc17 pm17 cd17 ct17 : Value} (a17 : PySem.W.nsIn K mainGlobals "law" = some (some (.ref f17))) (l17 : K.lookup f17 = some ⟨oc17, od17, .func (PySem.W.fnOf "law" "law" (defArgs s_law) (defBody s_law) (defScope s_law) .none kV17 dc17 pm17 an17 cd17 ct17), sl17⟩) (c17 : PySem.W.codeIn K cd17 "law" = true) (k17 : PySem.W.keepIn K (.ref f17) = true)
    (z0 : PySem.W.nsIn K mainGlobals "range" = some none)
    (z1 : PySem.W.nsIn K mainGlobals "isinstance" = some none)
    (z2 : PySem.W.nsIn K mainGlobals "bool" = some none)
    (z3 : PySem.W.nsIn K mainGlobals "int" = some none)
    (z4 : PySem.W.nsIn K mainGlobals "sorted" = some none)
    (z5 : PySem.W.nsIn K mainGlobals "set" = some none)
    (z6 : PySem.W.nsIn K mainGlobals "len" = some none)
    (z7 : PySem.W.nsIn K mainGlobals "all" = some none)
    (z8 : PySem.W.nsIn K mainGlobals "min" = some none)
    (z9 : PySem.W.nsIn K mainGlobals "max" = some none)
    (z10 : PySem.W.nsIn K mainGlobals "list" = some none)
    (z11 : PySem.W.nsIn K mainGlobals "sum" = some none)
    (z12 : PySem.W.nsIn K mainGlobals "abs" = some none)
    (z13 : PySem.W.nsIn K mainGlobals "enumerate" = some none)
    {u0 : Value} (g0 : PySem.W.nsIn K mainGlobals "ORDERS" = some (some u0)) (t0 : rdV K 8 u0 = some c_ORDERS)
    {u1 : Value} (g1 : PySem.W.nsIn K mainGlobals "FOUR" = some (some u1)) (t1 : rdV K 8 u1 = some c_FOUR)
    {u2 : Value} (g2 : PySem.W.nsIn K mainGlobals "SUMS" = some (some u2)) (t2 : rdV K 8 u2 = some c_SUMS)
    {u3 : Value} (g3 : PySem.W.nsIn K mainGlobals "PRODUCTS" = some (some u3)) (t3 : rdV K 8 u3 = some c_PRODUCTS)
    : ∃ fd : FuncData, (∀ (s : Shared) (u : Value), BindsTo s fd ⟨[u], []⟩ [("script", u)]) ∧ ∀ base : Heap, K.In base → base.Ns mainGlobals mg → FnG l.prog w K mg base 7 fa fd ["script"] (spG K 1 g_law) := by
  have x : Fx K mg := ⟨PySem.W.mg_none_of X G z0, PySem.W.mg_none_of X G z1, PySem.W.mg_none_of X G z2, PySem.W.mg_none_of X G z3, PySem.W.mg_none_of X G z4, PySem.W.mg_none_of X G z5, PySem.W.mg_none_of X G z6, PySem.W.mg_none_of X G z7, PySem.W.mg_none_of X G z8, PySem.W.mg_none_of X G z9, PySem.W.mg_none_of X G z10, PySem.W.mg_none_of X G z11, PySem.W.mg_none_of X G z12, PySem.W.mg_none_of X G z13, gc_mk X G g0 t0, gc_mk X G g1 t1, gc_mk X G g2 t2, gc_mk X G g3 t3, df_mk X G a0 l0 c0 k0, df_mk X G a1 l1 c1 k1, df_mk X G a2 l2 c2 k2, df_mk X G a3 l3 c3 k3, df_mk X G a4 l4 c4 k4, df_mk X G a5 l5 c5 k5, df_mk X G a6 l6 c6 k6, df_mk X G a7 l7 c7 k7, df_mk X G a8 l8 c8 k8, df_mk X G a9 l9 c9 k9, df_mk X G a10 l10 c10 k10, df_mk X G a11 l11 c11 k11, df_mk X G a12 l12 c12 k12, df_mk X G a13 l13 c13 k13, df_mk X G a14 l14 c14 k14, df_mk X G a15 l15 c15 k15, df_mk X G a16 l16 c16 k16, df_mk X G a17 l17 c17 k17⟩
  exact law_fn hfa x.f_law (fun base => ok_law x) pos_law
end W56
namespace W56
open RL PySem
local macro_rules | `(tactic| decreasing_trivial_pre_omega) => `(tactic| first | (with_reducible refine q_item (by with_unfolding_all rfl) ?_))
local macro_rules | `(tactic| decreasing_trivial_pre_omega) => `(tactic| first | (with_reducible refine q_gt (by with_unfolding_all rfl) ?_))
local macro_rules | `(tactic| decreasing_trivial_pre_omega) => `(tactic| first | (with_reducible refine q_lt (by with_unfolding_all rfl) ?_))
local macro_rules | `(tactic| decreasing_trivial_pre_omega) => `(tactic| first | (with_reducible refine q_le (by with_unfolding_all rfl) ?_))
local macro_rules | `(tactic| decreasing_trivial_pre_omega) => `(tactic| first | (with_reducible refine q_ge (by with_unfolding_all rfl) ?_))
local macro_rules | `(tactic| decreasing_trivial_pre_omega) => `(tactic| first | (with_reducible refine q_eq (by with_unfolding_all rfl) ?_))
local macro_rules | `(tactic| decreasing_trivial_pre_omega) => `(tactic| first | (with_reducible refine q_ne (by with_unfolding_all rfl) ?_))
local macro_rules | `(tactic| decreasing_trivial_pre_omega) => `(tactic| first | (with_reducible refine q_intF (by with_unfolding_all rfl) ?_))
local macro_rules | `(tactic| decreasing_trivial_pre_omega) => `(tactic| first | (with_reducible refine q_lenF (by with_unfolding_all rfl) ?_))
local macro_rules | `(tactic| decreasing_trivial_pre_omega) => `(tactic| first | (with_reducible refine q_absF (by with_unfolding_all rfl) ?_))
local macro_rules | `(tactic| decreasing_trivial_pre_omega) => `(tactic| first | (with_reducible refine q_seqOf (by with_unfolding_all rfl) ?_))
local macro_rules | `(tactic| decreasing_trivial_pre_omega) => `(tactic| first | (with_reducible refine q_blD (by with_unfolding_all rfl) ?_))
local macro_rules | `(tactic| decreasing_trivial_pre_omega) => `(tactic| first | (with_reducible refine q_isiF (by with_unfolding_all rfl) ?_))
local macro_rules | `(tactic| decreasing_trivial_pre_omega) => `(tactic| first | (with_reducible refine q_sliceF (by with_unfolding_all rfl) ?_))
local macro_rules | `(tactic| decreasing_trivial_pre_omega) => `(tactic| first | (with_reducible refine q_revF (by with_unfolding_all rfl) ?_))
local macro_rules | `(tactic| decreasing_trivial_pre_omega) => `(tactic| first | (with_reducible refine q_max2F (by with_unfolding_all rfl) ?_))
local macro_rules | `(tactic| decreasing_trivial_pre_omega) => `(tactic| first | (with_reducible refine q_min2F (by with_unfolding_all rfl) ?_))
local macro_rules | `(tactic| decreasing_trivial_pre_omega) => `(tactic| first | (with_reducible refine q_listF (by with_unfolding_all rfl) ?_))
local macro_rules | `(tactic| decreasing_trivial_pre_omega) => `(tactic| first | (with_reducible refine q_tupleF (by with_unfolding_all rfl) ?_))
local macro_rules | `(tactic| decreasing_trivial_pre_omega) => `(tactic| first | (with_reducible refine q_popF (by with_unfolding_all rfl) ?_))
local macro_rules | `(tactic| decreasing_trivial_pre_omega) => `(tactic| first | (with_reducible refine q_rng1 ⟨by decide +kernel⟩ ?_))
local macro_rules | `(tactic| decreasing_trivial_pre_omega) => `(tactic| first | (with_reducible refine q_rng2 ⟨by decide +kernel⟩ ?_))
local macro_rules | `(tactic| decreasing_trivial_pre_omega) => `(tactic| first | (with_reducible refine ok_skip ?_))
local macro_rules | `(tactic| decreasing_trivial_pre_omega) => `(tactic| first | (with_reducible refine ok_brk ?_))
local macro_rules | `(tactic| decreasing_trivial_pre_omega) => `(tactic| first | (with_reducible refine ok_ct ?_))
local macro_rules | `(tactic| decreasing_trivial_pre_omega) => `(tactic| first | (with_reducible refine ok_seq ?_))
local macro_rules | `(tactic| decreasing_trivial_pre_omega) => `(tactic| first | (with_reducible refine ok_if ?_))
local macro_rules | `(tactic| decreasing_trivial_pre_omega) => `(tactic| first | (with_reducible refine ok_twoB ?_))
local macro_rules | `(tactic| decreasing_trivial_pre_omega) => `(tactic| first | (with_reducible refine ok_twoD ?_))
local macro_rules | `(tactic| decreasing_trivial_pre_omega) => `(tactic| first | (with_reducible refine ok_two ?_))
local macro_rules | `(tactic| decreasing_trivial_pre_omega) => `(tactic| first | (with_reducible refine ok_item ?_))
local macro_rules | `(tactic| decreasing_trivial_pre_omega) => `(tactic| first | (with_reducible refine ok_bind ?_))
local macro_rules | `(tactic| decreasing_trivial_pre_omega) => `(tactic| first | (with_reducible refine ok_pure ?_))
local macro_rules | `(tactic| decreasing_trivial_pre_omega) => `(tactic| first | (with_reducible refine ok_peekd ?_))
local macro_rules | `(tactic| decreasing_trivial_pre_omega) => `(tactic| first | (with_reducible refine ok_peekf ?_))
local macro_rules | `(tactic| decreasing_trivial_pre_omega) => `(tactic| first | (with_reducible refine ok_taked ?_))
local macro_rules | `(tactic| decreasing_trivial_pre_omega) => `(tactic| first | (with_reducible refine ok_takef ?_))
local macro_rules | `(tactic| decreasing_trivial_pre_omega) => `(tactic| first | (with_reducible refine ok_cons ?_))
local macro_rules | `(tactic| decreasing_trivial_pre_omega) => `(tactic| first | (with_reducible refine ok_star ?_))
local macro_rules | `(tactic| decreasing_trivial_pre_omega) => `(tactic| first | (with_reducible refine ok_blt ?_))
local macro_rules | `(tactic| decreasing_trivial_pre_omega) => `(tactic| first | (with_reducible refine ok_call ?_))
local macro_rules | `(tactic| decreasing_trivial_pre_omega) => `(tactic| first | (with_reducible refine ok_callK ?_))
local macro_rules | `(tactic| decreasing_trivial_pre_omega) => `(tactic| first | (with_reducible refine ok_peekAll_nil ?_))
local macro_rules | `(tactic| decreasing_trivial_pre_omega) => `(tactic| first | (with_reducible refine ok_peekAll_cons ?_))
local macro_rules | `(tactic| decreasing_trivial_pre_omega) => `(tactic| first | (with_reducible refine ok_asg ?_))
local macro_rules | `(tactic| decreasing_trivial_pre_omega) => `(tactic| first | (with_reducible refine ok_asgT ?_))
local macro_rules | `(tactic| decreasing_trivial_pre_omega) => `(tactic| first | (with_reducible refine ok_settled ?_))
local macro_rules | `(tactic| decreasing_trivial_pre_omega) => `(tactic| first | (with_reducible refine ok_settlef ?_))
local macro_rules | `(tactic| decreasing_trivial_pre_omega) => `(tactic| first | (with_reducible refine ok_ret ?_))
local macro_rules | `(tactic| decreasing_trivial_pre_omega) => `(tactic| first | (with_reducible refine ok_leaved ?_))
local macro_rules | `(tactic| decreasing_trivial_pre_omega) => `(tactic| first | (with_reducible refine ok_leavef ?_))
local macro_rules | `(tactic| decreasing_trivial_pre_omega) => `(tactic| first | (with_reducible refine ok_drop ?_))
local macro_rules | `(tactic| decreasing_trivial_pre_omega) => `(tactic| first | (with_reducible refine ok_val ?_))
local macro_rules | `(tactic| decreasing_trivial_pre_omega) => `(tactic| first | (with_reducible refine ok_not ?_))
local macro_rules | `(tactic| decreasing_trivial_pre_omega) => `(tactic| first | (with_reducible refine ok_isi ?_))
local macro_rules | `(tactic| decreasing_trivial_pre_omega) => `(tactic| first | (with_reducible refine ok_chain ?_))
local macro_rules | `(tactic| decreasing_trivial_pre_omega) => `(tactic| first | (with_reducible refine ok_slice ?_))
local macro_rules | `(tactic| decreasing_trivial_pre_omega) => `(tactic| first | (with_reducible refine ok_rev ?_))
local macro_rules | `(tactic| decreasing_trivial_pre_omega) => `(tactic| first | (with_reducible refine ok_lk1 ?_))
local macro_rules | `(tactic| decreasing_trivial_pre_omega) => `(tactic| first | (with_reducible refine ok_listRg ?_))
local macro_rules | `(tactic| decreasing_trivial_pre_omega) => `(tactic| first | (with_reducible refine ok_tupRg ?_))
local macro_rules | `(tactic| decreasing_trivial_pre_omega) => `(tactic| first | (with_reducible refine ok_par ?_))
local macro_rules | `(tactic| decreasing_trivial_pre_omega) => `(tactic| first | (with_reducible refine ok_settleAll_nil ?_))
local macro_rules | `(tactic| decreasing_trivial_pre_omega) => `(tactic| first | (with_reducible refine ok_settleAll_cons ?_))
local macro_rules | `(tactic| decreasing_trivial_pre_omega) => `(tactic| first | (with_reducible refine ok_putAll_nil ?_))
local macro_rules | `(tactic| decreasing_trivial_pre_omega) => `(tactic| first | (with_reducible refine ok_putAll_cons ?_))
local macro_rules | `(tactic| decreasing_trivial_pre_omega) => `(tactic| first | (with_reducible refine ok_gnil ?_))
local macro_rules | `(tactic| decreasing_trivial_pre_omega) => `(tactic| first | (with_reducible refine ok_gcons ?_))
local macro_rules | `(tactic| decreasing_trivial_pre_omega) => `(tactic| first | (with_reducible refine ok_for ?_))
local macro_rules | `(tactic| decreasing_trivial_pre_omega) => `(tactic| first | (with_reducible refine ok_rng ?_))
local macro_rules | `(tactic| decreasing_trivial_pre_omega) => `(tactic| first | (with_reducible refine ok_enum ?_))
local macro_rules | `(tactic| decreasing_trivial_pre_omega) => `(tactic| first | (with_reducible refine ok_walkf ?_))
local macro_rules | `(tactic| decreasing_trivial_pre_omega) => `(tactic| first | (with_reducible refine ok_lc ?_))
local macro_rules | `(tactic| decreasing_trivial_pre_omega) => `(tactic| first | (with_reducible refine ok_ite ?_))
local macro_rules | `(tactic| decreasing_trivial_pre_omega) => `(tactic| first | (with_reducible refine ok_notD ?_))
local macro_rules | `(tactic| decreasing_trivial_pre_omega) => `(tactic| first | (with_reducible refine ok_andD ?_))
local macro_rules | `(tactic| decreasing_trivial_pre_omega) => `(tactic| first | (with_reducible refine ok_orD ?_))
local macro_rules | `(tactic| decreasing_trivial_pre_omega) => `(tactic| first | (with_reducible refine ok_settles ?_))
local macro_rules | `(tactic| decreasing_trivial_pre_omega) => `(tactic| first | (with_reducible refine ok_geto (by with_unfolding_all rfl) ?_))
local macro_rules | `(tactic| decreasing_trivial_pre_omega) => `(tactic| first | (with_reducible refine ok_getv (by with_unfolding_all rfl) ?_))
local macro_rules | `(tactic| decreasing_trivial_pre_omega) => `(tactic| first | (with_reducible refine ok_peeks (by with_unfolding_all rfl) ?_))
local macro_rules | `(tactic| decreasing_trivial_pre_omega) => `(tactic| first | (with_reducible refine ok_takes (by with_unfolding_all rfl) ?_))
local macro_rules | `(tactic| decreasing_trivial_pre_omega) => `(tactic| first | (with_reducible refine ok_gsub (by with_unfolding_all rfl) ?_))
local macro_rules | `(tactic| decreasing_trivial_pre_omega) => `(tactic| first | (with_reducible refine ok_callL (by with_unfolding_all rfl) ?_))
local macro_rules | `(tactic| decreasing_trivial_pre_omega) => `(tactic| first | (with_reducible refine ok_meth (by with_unfolding_all rfl) ?_))
local macro_rules | `(tactic| decreasing_trivial_pre_omega) => `(tactic| first | (with_reducible refine ok_leaves (by with_unfolding_all rfl) ?_))
local macro_rules | `(tactic| decreasing_trivial_pre_omega) => `(tactic| first | (with_reducible refine ok_walks (by with_unfolding_all rfl) ?_))
local macro_rules | `(tactic| decreasing_trivial_pre_omega) => `(tactic| first | ((with_reducible refine ok_putd (okSet_sv (by with_unfolding_all rfl) (by assumption)) ?_); (try simp only [List.set_cons_zero, List.set_cons_succ])))
local macro_rules | `(tactic| decreasing_trivial_pre_omega) => `(tactic| first | ((with_reducible refine ok_putf (okSet_sv (by with_unfolding_all rfl) (by assumption)) ?_); (try simp only [List.set_cons_zero, List.set_cons_succ])))
local macro_rules | `(tactic| decreasing_trivial_pre_omega) => `(tactic| first | ((with_reducible refine ok_gv (okSet_sv (by with_unfolding_all rfl) (by assumption)) ?_); (try simp only [List.set_cons_zero, List.set_cons_succ])))
local macro_rules | `(tactic| decreasing_trivial_pre_omega) => `(tactic| first | ((with_reducible refine ok_putd (by with_unfolding_all rfl) ?_); (try simp only [List.set_cons_zero, List.set_cons_succ])))
local macro_rules | `(tactic| decreasing_trivial_pre_omega) => `(tactic| first | ((with_reducible refine ok_putf (by with_unfolding_all rfl) ?_); (try simp only [List.set_cons_zero, List.set_cons_succ])))
local macro_rules | `(tactic| decreasing_trivial_pre_omega) => `(tactic| first | ((with_reducible refine ok_gv (by with_unfolding_all rfl) ?_); (try simp only [List.set_cons_zero, List.set_cons_succ])))
local macro_rules | `(tactic| decreasing_trivial_pre_omega) => `(tactic| first | (with_reducible refine ok_neg ?_))
local macro_rules | `(tactic| decreasing_trivial_pre_omega) => `(tactic| first | (with_reducible refine ok_part ?_))
local macro_rules | `(tactic| decreasing_trivial_pre_omega) => `(tactic| first | (with_reducible refine ok_rg1 ?_))
local macro_rules | `(tactic| decreasing_trivial_pre_omega) => `(tactic| first | (with_reducible refine ok_rg2 ?_))
local macro_rules | `(tactic| decreasing_trivial_pre_omega) => `(tactic| first | (with_reducible refine ok_tup ?_))
local macro_rules | `(tactic| decreasing_trivial_pre_omega) => `(tactic| first | (with_reducible refine ok_lst ?_))
local macro_rules | `(tactic| decreasing_trivial_pre_omega) => `(tactic| first | (with_reducible refine sz_and (by with_unfolding_all rfl) ?_))
local macro_rules | `(tactic| decreasing_trivial_pre_omega) => `(tactic| first | (with_reducible refine okw_nil ?_))
local macro_rules | `(tactic| decreasing_trivial_pre_omega) => `(tactic| first | (with_reducible refine okw_lock0 ?_))
local macro_rules | `(tactic| decreasing_trivial_pre_omega) => `(tactic| first | (with_reducible refine loop_lock0 ?_))
local macro_rules | `(tactic| decreasing_trivial_pre_omega) => `(tactic| first | (with_reducible refine okw_cons ?_))
local macro_rules | `(tactic| decreasing_trivial_pre_omega) => `(tactic| first | ((with_reducible refine okw_and (okSet_sv (by with_unfolding_all rfl) (by assumption)) ?_); (try simp only [List.set_cons_zero, List.set_cons_succ])))
local macro_rules | `(tactic| decreasing_trivial_pre_omega) => `(tactic| first | ((with_reducible refine okw_and (by with_unfolding_all rfl) ?_); (try simp only [List.set_cons_zero, List.set_cons_succ])))
local macro_rules | `(tactic| decreasing_trivial_pre_omega) => `(tactic| first | (with_reducible refine thenS_nx ?_))
local macro_rules | `(tactic| decreasing_trivial_pre_omega) => `(tactic| first | (with_reducible refine thenS_rt ?_))
local macro_rules | `(tactic| decreasing_trivial_pre_omega) => `(tactic| first | (with_reducible refine ok_gtup (by with_unfolding_all rfl) (by with_unfolding_all rfl) ?_))
local macro_rules | `(tactic| decreasing_trivial_pre_omega) => `(tactic| first | (with_reducible refine ok_walkd ?_))
local macro_rules | `(tactic| decreasing_trivial_pre_omega) => `(tactic| first | (with_reducible refine ex_int ?_))
local macro_rules | `(tactic| decreasing_trivial_pre_omega) => `(tactic| first | (with_reducible refine ex_int2 ?_))
local macro_rules | `(tactic| decreasing_trivial_pre_omega) => `(tactic| first | (with_reducible refine ex_fin ?_))
local macro_rules | `(tactic| decreasing_trivial_pre_omega) => `(tactic| first | (with_reducible refine o_add ?_))
local macro_rules | `(tactic| decreasing_trivial_pre_omega) => `(tactic| first | (with_reducible refine o_sub ?_))
local macro_rules | `(tactic| decreasing_trivial_pre_omega) => `(tactic| first | (with_reducible refine o_mod (by decide +kernel) ?_))
local macro_rules | `(tactic| decreasing_trivial_pre_omega) => `(tactic| first | (with_reducible refine o_pow ?_ ?_))
local macro_rules | `(tactic| decreasing_trivial_pre_omega) => `(tactic| first | (with_reducible refine o_pow ⟨by decide +kernel⟩ ?_))
/-! ### the fields -/
abbrev nd (k : Nat) : D := .int (k : Nat)
def isN (r : Option Rv) (k : Nat) : Bool := match r with
  | some (.d (.int i)) => i == (k : Int)
  | _ => false
theorem isN_ok {r : Option Rv} {k : Nat} (h : isN r k = true) : r = some (.d (nd k)) := by
  unfold isN at h
  split at h
  · rw [eq_of_beq h]
  · cases h
def pl (o a b : Nat) : Nat := if o = 4 then Nat.xor a b else (a + b) % o
def tm (o a b : Nat) : Nat := if o = 4 then (if a = 0 ∨ b = 0 then 0 else (a + b - 2) % 3 + 1) else a * b % o
def ng (o a : Nat) : Nat := if o = 4 then a else (o - a) % o
def iv (o a : Nat) : Nat := if o = 4 then (4 - a) % 3 + 1 else a ^ (o - 2) % o
def pw (o a : Nat) : Nat → Nat
  | 0 => 1
  | k + 1 => tm o (pw o a k) a
def fOk (o : Nat) : Bool := (List.range o).all fun a => isN (g__law_turned [nd o, nd a]) (ng o a) && Nat.ble (ng o a + 1) o && (a == 0 || (isN (g_inverse [nd o, nd a]) (iv o a) && Nat.ble (iv o a + 1) o)) &&
  (List.range o).all fun b => isN (g_plus [nd o, nd a, nd b]) (pl o a b) && Nat.ble (pl o a b + 1) o && isN (g_times [nd o, nd a, nd b]) (tm o a b) && Nat.ble (tm o a b + 1) o && (a == b || pl o a (ng o b) != 0)
theorem fOk2 : fOk 2 = true := by decide +kernel
theorem fOk3 : fOk 3 = true := by decide +kernel
theorem fOk4 : fOk 4 = true := by decide +kernel
theorem fOk5 : fOk 5 = true := by decide +kernel
def Od (o : Nat) : Prop := o = 2 ∨ o = 3 ∨ o = 4 ∨ o = 5
theorem fOk_all {o : Nat} (h : Od o) : fOk o = true := by
  rcases h with rfl | rfl | rfl | rfl
  · exact fOk2
  · exact fOk3
  · exact fOk4
  · exact fOk5
theorem f_one {o a : Nat} (h : Od o) (ha : a < o) : g__law_turned [nd o, nd a] = some (.d (nd (ng o a))) ∧ ng o a < o ∧ (a ≠ 0 → g_inverse [nd o, nd a] = some (.d (nd (iv o a))) ∧ iv o a < o) := by
  have f := fOk_all h
  unfold fOk at f
  have f1 := List.all_eq_true.mp f a (List.mem_range.mpr ha)
  simp only [Bool.and_eq_true, Bool.or_eq_true, beq_iff_eq] at f1
  obtain ⟨⟨⟨h1, h2⟩, h3⟩, _⟩ := f1
  refine ⟨isN_ok h1, Nat.le_of_ble_eq_true h2, fun h0 => ?_⟩
  rcases h3 with h3 | h3
  · exact absurd h3 h0
  · exact ⟨isN_ok h3.1, Nat.le_of_ble_eq_true h3.2⟩
theorem f_two {o a b : Nat} (h : Od o) (ha : a < o) (hb : b < o) : g_plus [nd o, nd a, nd b] = some (.d (nd (pl o a b))) ∧ pl o a b < o ∧ g_times [nd o, nd a, nd b] = some (.d (nd (tm o a b))) ∧ tm o a b < o ∧ (a ≠ b → pl o a (ng o b) ≠ 0) := by
  have f := fOk_all h
  unfold fOk at f
  have f1 := List.all_eq_true.mp f a (List.mem_range.mpr ha)
  simp only [Bool.and_eq_true] at f1
  have f2 := List.all_eq_true.mp f1.2 b (List.mem_range.mpr hb)
  simp only [Bool.and_eq_true, Bool.or_eq_true, beq_iff_eq, bne_iff_ne] at f2
  obtain ⟨⟨⟨⟨h1, h2⟩, h3⟩, h4⟩, h5⟩ := f2
  exact ⟨isN_ok h1, Nat.le_of_ble_eq_true h2, isN_ok h3, Nat.le_of_ble_eq_true h4, fun n => h5.resolve_left n⟩
/-! ### a polynomial at a number -/
def atF (o n : Nat) (row : List Nat) : Nat := row.foldl (fun f a => pl o (tm o f n) a) 0
theorem at_lt {o n : Nat} (h : Od o) (hn : n < o) : ∀ {row : List Nat} {f : Nat}, (∀ a ∈ row, a < o) → f < o → row.foldl (fun f a => pl o (tm o f n) a) f < o
  | [], _, _, hf => hf
  | a :: row, f, hr, hf => by
    rw [List.foldl_cons]
    exact at_lt h hn (row := row) (fun b hb => hr b (List.mem_cons_of_mem _ hb)) (f_two h (f_two h hf hn).2.2.2.1 (hr a List.mem_cons_self)).2.1
theorem at_ok {o n : Nat} (h : Od o) (hn : n < o) {row : List Nat} (hr : ∀ a ∈ row, a < o) {Q : Rv → Prop} (q : Q (.d (nd (atF o n row.reverse)))) : OkO (g__law_at [nd o, .list (row.map nd), nd n]) Q := by
  unfold g__law_at
  refine run_data [.val (nd o), .val (.list (row.map nd)), .val (nd n), .nil, .nil] (by rfl) (by rfl) ?_
  unfold m__law_at
  repeat decreasing_trivial_pre_omega
  rw [← List.map_reverse]
  refine loop_inv (fun r sl => ∃ f x, SV x ∧ sl = [.val (nd o), .val (.list (row.map nd)), .val (nd n), .val (nd f), x] ∧ f < o ∧ ∃ js : List Nat, r = js.map nd ∧ (∀ a ∈ js, a < o) ∧ js.foldl (fun f a => pl o (tm o f n) a) f = atF o n row.reverse)
    ⟨0, .nil, sv_nil, rfl, (by rcases h with rfl | rfl | rfl | rfl <;> decide), row.reverse, rfl, fun a ha => hr a (List.mem_reverse.mp ha), rfl⟩ (fun d r sl _ hI => ?_) (fun sl hI => ?_)
  · obtain ⟨f, x, hx, rfl, hf, js, hj, hjs, e⟩ := hI
    cases js with
    | nil => cases hj
    | cons a js =>
      rw [List.map_cons] at hj
      obtain ⟨rfl, rfl⟩ := List.cons.inj hj
      have ha := hjs a List.mem_cons_self
      have t := f_two h hf hn
      have p := f_two h t.2.2.2.1 ha
      repeat decreasing_trivial_pre_omega
      refine ⟨_, t.2.2.1, ?_⟩
      repeat decreasing_trivial_pre_omega
      refine ⟨_, p.1, ?_⟩
      repeat decreasing_trivial_pre_omega
      exact ⟨pl o (tm o f n) a, _, sv_val, rfl, p.2.1, js, rfl, fun b hb => hjs b (List.mem_cons_of_mem _ hb), e⟩
  · obtain ⟨f, x, hx, rfl, hf, js, hj, hjs, e⟩ := hI
    cases js with
    | cons a js => cases hj
    | nil =>
      repeat decreasing_trivial_pre_omega
      rw [show f = atF o n row.reverse from e]
      exact q
/-! ### zeros and degrees -/
def topG : Nat → List Nat → List Nat
  | _, [] => []
  | k, a :: r => if a = 0 then topG (k + 1) r else k :: topG (k + 1) r
def zerosF (o : Nat) (row : List Nat) : List Nat := (List.range o).filter fun n => atF o n row.reverse == 0
def polyB (o : Nat) (row : List Nat) : Bool := match (topG 0 row).getLast? with
  | none => true
  | some t => Nat.ble (zerosF o row).length t
def allRows (o : Nat) : Nat → List (List Nat)
  | 0 => [[]]
  | k + 1 => (List.range o).flatMap fun a => (allRows o k).map (a :: ·)
theorem mem_rows {o : Nat} : ∀ {row : List Nat}, (∀ a ∈ row, a < o) → row ∈ allRows o row.length
  | [], _ => by simp [allRows]
  | a :: row, h => by
    rw [List.length_cons, allRows, List.mem_flatMap]
    exact ⟨a, List.mem_range.mpr (h a List.mem_cons_self), List.mem_map.mpr ⟨row, mem_rows fun b hb => h b (List.mem_cons_of_mem _ hb), rfl⟩⟩
def polyAll (o : Nat) : Bool := (List.range 6).all fun k => (allRows o k).all (polyB o)
theorem poly2 : polyAll 2 = true := by decide +kernel
theorem poly3 : polyAll 3 = true := by decide +kernel
theorem poly4 : polyAll 4 = true := by decide +kernel
theorem poly5 : polyAll 5 = true := by decide +kernel
theorem poly_ok {o : Nat} (h : Od o) {row : List Nat} (hl : row.length ≤ 5) (hr : ∀ a ∈ row, a < o) : polyB o row = true := by
  have f : polyAll o = true := by
    rcases h with rfl | rfl | rfl | rfl
    · exact poly2
    · exact poly3
    · exact poly4
    · exact poly5
  unfold polyAll at f
  exact List.all_eq_true.mp (List.all_eq_true.mp f row.length (List.mem_range.mpr (by omega))) row (mem_rows hr)
end W56
namespace W56
open RL PySem
local macro_rules | `(tactic| decreasing_trivial_pre_omega) => `(tactic| first | (with_reducible refine q_item (by with_unfolding_all rfl) ?_))
local macro_rules | `(tactic| decreasing_trivial_pre_omega) => `(tactic| first | (with_reducible refine q_gt (by with_unfolding_all rfl) ?_))
local macro_rules | `(tactic| decreasing_trivial_pre_omega) => `(tactic| first | (with_reducible refine q_lt (by with_unfolding_all rfl) ?_))
local macro_rules | `(tactic| decreasing_trivial_pre_omega) => `(tactic| first | (with_reducible refine q_le (by with_unfolding_all rfl) ?_))
local macro_rules | `(tactic| decreasing_trivial_pre_omega) => `(tactic| first | (with_reducible refine q_ge (by with_unfolding_all rfl) ?_))
local macro_rules | `(tactic| decreasing_trivial_pre_omega) => `(tactic| first | (with_reducible refine q_eq (by with_unfolding_all rfl) ?_))
local macro_rules | `(tactic| decreasing_trivial_pre_omega) => `(tactic| first | (with_reducible refine q_ne (by with_unfolding_all rfl) ?_))
local macro_rules | `(tactic| decreasing_trivial_pre_omega) => `(tactic| first | (with_reducible refine q_intF (by with_unfolding_all rfl) ?_))
local macro_rules | `(tactic| decreasing_trivial_pre_omega) => `(tactic| first | (with_reducible refine q_lenF (by with_unfolding_all rfl) ?_))
local macro_rules | `(tactic| decreasing_trivial_pre_omega) => `(tactic| first | (with_reducible refine q_absF (by with_unfolding_all rfl) ?_))
local macro_rules | `(tactic| decreasing_trivial_pre_omega) => `(tactic| first | (with_reducible refine q_seqOf (by with_unfolding_all rfl) ?_))
local macro_rules | `(tactic| decreasing_trivial_pre_omega) => `(tactic| first | (with_reducible refine q_blD (by with_unfolding_all rfl) ?_))
local macro_rules | `(tactic| decreasing_trivial_pre_omega) => `(tactic| first | (with_reducible refine q_isiF (by with_unfolding_all rfl) ?_))
local macro_rules | `(tactic| decreasing_trivial_pre_omega) => `(tactic| first | (with_reducible refine q_sliceF (by with_unfolding_all rfl) ?_))
local macro_rules | `(tactic| decreasing_trivial_pre_omega) => `(tactic| first | (with_reducible refine q_revF (by with_unfolding_all rfl) ?_))
local macro_rules | `(tactic| decreasing_trivial_pre_omega) => `(tactic| first | (with_reducible refine q_max2F (by with_unfolding_all rfl) ?_))
local macro_rules | `(tactic| decreasing_trivial_pre_omega) => `(tactic| first | (with_reducible refine q_min2F (by with_unfolding_all rfl) ?_))
local macro_rules | `(tactic| decreasing_trivial_pre_omega) => `(tactic| first | (with_reducible refine q_listF (by with_unfolding_all rfl) ?_))
local macro_rules | `(tactic| decreasing_trivial_pre_omega) => `(tactic| first | (with_reducible refine q_tupleF (by with_unfolding_all rfl) ?_))
local macro_rules | `(tactic| decreasing_trivial_pre_omega) => `(tactic| first | (with_reducible refine q_popF (by with_unfolding_all rfl) ?_))
local macro_rules | `(tactic| decreasing_trivial_pre_omega) => `(tactic| first | (with_reducible refine q_rng1 ⟨by decide +kernel⟩ ?_))
local macro_rules | `(tactic| decreasing_trivial_pre_omega) => `(tactic| first | (with_reducible refine q_rng2 ⟨by decide +kernel⟩ ?_))
local macro_rules | `(tactic| decreasing_trivial_pre_omega) => `(tactic| first | (with_reducible refine ok_skip ?_))
local macro_rules | `(tactic| decreasing_trivial_pre_omega) => `(tactic| first | (with_reducible refine ok_brk ?_))
local macro_rules | `(tactic| decreasing_trivial_pre_omega) => `(tactic| first | (with_reducible refine ok_ct ?_))
local macro_rules | `(tactic| decreasing_trivial_pre_omega) => `(tactic| first | (with_reducible refine ok_seq ?_))
local macro_rules | `(tactic| decreasing_trivial_pre_omega) => `(tactic| first | (with_reducible refine ok_if ?_))
local macro_rules | `(tactic| decreasing_trivial_pre_omega) => `(tactic| first | (with_reducible refine ok_twoB ?_))
local macro_rules | `(tactic| decreasing_trivial_pre_omega) => `(tactic| first | (with_reducible refine ok_twoD ?_))
local macro_rules | `(tactic| decreasing_trivial_pre_omega) => `(tactic| first | (with_reducible refine ok_two ?_))
local macro_rules | `(tactic| decreasing_trivial_pre_omega) => `(tactic| first | (with_reducible refine ok_item ?_))
local macro_rules | `(tactic| decreasing_trivial_pre_omega) => `(tactic| first | (with_reducible refine ok_bind ?_))
local macro_rules | `(tactic| decreasing_trivial_pre_omega) => `(tactic| first | (with_reducible refine ok_pure ?_))
local macro_rules | `(tactic| decreasing_trivial_pre_omega) => `(tactic| first | (with_reducible refine ok_peekd ?_))
local macro_rules | `(tactic| decreasing_trivial_pre_omega) => `(tactic| first | (with_reducible refine ok_peekf ?_))
local macro_rules | `(tactic| decreasing_trivial_pre_omega) => `(tactic| first | (with_reducible refine ok_taked ?_))
local macro_rules | `(tactic| decreasing_trivial_pre_omega) => `(tactic| first | (with_reducible refine ok_takef ?_))
local macro_rules | `(tactic| decreasing_trivial_pre_omega) => `(tactic| first | (with_reducible refine ok_cons ?_))
local macro_rules | `(tactic| decreasing_trivial_pre_omega) => `(tactic| first | (with_reducible refine ok_star ?_))
local macro_rules | `(tactic| decreasing_trivial_pre_omega) => `(tactic| first | (with_reducible refine ok_blt ?_))
local macro_rules | `(tactic| decreasing_trivial_pre_omega) => `(tactic| first | (with_reducible refine ok_call ?_))
local macro_rules | `(tactic| decreasing_trivial_pre_omega) => `(tactic| first | (with_reducible refine ok_callK ?_))
local macro_rules | `(tactic| decreasing_trivial_pre_omega) => `(tactic| first | (with_reducible refine ok_peekAll_nil ?_))
local macro_rules | `(tactic| decreasing_trivial_pre_omega) => `(tactic| first | (with_reducible refine ok_peekAll_cons ?_))
local macro_rules | `(tactic| decreasing_trivial_pre_omega) => `(tactic| first | (with_reducible refine ok_asg ?_))
local macro_rules | `(tactic| decreasing_trivial_pre_omega) => `(tactic| first | (with_reducible refine ok_asgT ?_))
local macro_rules | `(tactic| decreasing_trivial_pre_omega) => `(tactic| first | (with_reducible refine ok_settled ?_))
local macro_rules | `(tactic| decreasing_trivial_pre_omega) => `(tactic| first | (with_reducible refine ok_settlef ?_))
local macro_rules | `(tactic| decreasing_trivial_pre_omega) => `(tactic| first | (with_reducible refine ok_ret ?_))
local macro_rules | `(tactic| decreasing_trivial_pre_omega) => `(tactic| first | (with_reducible refine ok_leaved ?_))
local macro_rules | `(tactic| decreasing_trivial_pre_omega) => `(tactic| first | (with_reducible refine ok_leavef ?_))
local macro_rules | `(tactic| decreasing_trivial_pre_omega) => `(tactic| first | (with_reducible refine ok_drop ?_))
local macro_rules | `(tactic| decreasing_trivial_pre_omega) => `(tactic| first | (with_reducible refine ok_val ?_))
local macro_rules | `(tactic| decreasing_trivial_pre_omega) => `(tactic| first | (with_reducible refine ok_not ?_))
local macro_rules | `(tactic| decreasing_trivial_pre_omega) => `(tactic| first | (with_reducible refine ok_isi ?_))
local macro_rules | `(tactic| decreasing_trivial_pre_omega) => `(tactic| first | (with_reducible refine ok_chain ?_))
local macro_rules | `(tactic| decreasing_trivial_pre_omega) => `(tactic| first | (with_reducible refine ok_slice ?_))
local macro_rules | `(tactic| decreasing_trivial_pre_omega) => `(tactic| first | (with_reducible refine ok_rev ?_))
local macro_rules | `(tactic| decreasing_trivial_pre_omega) => `(tactic| first | (with_reducible refine ok_lk1 ?_))
local macro_rules | `(tactic| decreasing_trivial_pre_omega) => `(tactic| first | (with_reducible refine ok_listRg ?_))
local macro_rules | `(tactic| decreasing_trivial_pre_omega) => `(tactic| first | (with_reducible refine ok_tupRg ?_))
local macro_rules | `(tactic| decreasing_trivial_pre_omega) => `(tactic| first | (with_reducible refine ok_par ?_))
local macro_rules | `(tactic| decreasing_trivial_pre_omega) => `(tactic| first | (with_reducible refine ok_settleAll_nil ?_))
local macro_rules | `(tactic| decreasing_trivial_pre_omega) => `(tactic| first | (with_reducible refine ok_settleAll_cons ?_))
local macro_rules | `(tactic| decreasing_trivial_pre_omega) => `(tactic| first | (with_reducible refine ok_putAll_nil ?_))
local macro_rules | `(tactic| decreasing_trivial_pre_omega) => `(tactic| first | (with_reducible refine ok_putAll_cons ?_))
local macro_rules | `(tactic| decreasing_trivial_pre_omega) => `(tactic| first | (with_reducible refine ok_gnil ?_))
local macro_rules | `(tactic| decreasing_trivial_pre_omega) => `(tactic| first | (with_reducible refine ok_gcons ?_))
local macro_rules | `(tactic| decreasing_trivial_pre_omega) => `(tactic| first | (with_reducible refine ok_for ?_))
local macro_rules | `(tactic| decreasing_trivial_pre_omega) => `(tactic| first | (with_reducible refine ok_rng ?_))
local macro_rules | `(tactic| decreasing_trivial_pre_omega) => `(tactic| first | (with_reducible refine ok_enum ?_))
local macro_rules | `(tactic| decreasing_trivial_pre_omega) => `(tactic| first | (with_reducible refine ok_walkf ?_))
local macro_rules | `(tactic| decreasing_trivial_pre_omega) => `(tactic| first | (with_reducible refine ok_lc ?_))
local macro_rules | `(tactic| decreasing_trivial_pre_omega) => `(tactic| first | (with_reducible refine ok_ite ?_))
local macro_rules | `(tactic| decreasing_trivial_pre_omega) => `(tactic| first | (with_reducible refine ok_notD ?_))
local macro_rules | `(tactic| decreasing_trivial_pre_omega) => `(tactic| first | (with_reducible refine ok_andD ?_))
local macro_rules | `(tactic| decreasing_trivial_pre_omega) => `(tactic| first | (with_reducible refine ok_orD ?_))
local macro_rules | `(tactic| decreasing_trivial_pre_omega) => `(tactic| first | (with_reducible refine ok_settles ?_))
local macro_rules | `(tactic| decreasing_trivial_pre_omega) => `(tactic| first | (with_reducible refine ok_geto (by with_unfolding_all rfl) ?_))
local macro_rules | `(tactic| decreasing_trivial_pre_omega) => `(tactic| first | (with_reducible refine ok_getv (by with_unfolding_all rfl) ?_))
local macro_rules | `(tactic| decreasing_trivial_pre_omega) => `(tactic| first | (with_reducible refine ok_peeks (by with_unfolding_all rfl) ?_))
local macro_rules | `(tactic| decreasing_trivial_pre_omega) => `(tactic| first | (with_reducible refine ok_takes (by with_unfolding_all rfl) ?_))
local macro_rules | `(tactic| decreasing_trivial_pre_omega) => `(tactic| first | (with_reducible refine ok_gsub (by with_unfolding_all rfl) ?_))
local macro_rules | `(tactic| decreasing_trivial_pre_omega) => `(tactic| first | (with_reducible refine ok_callL (by with_unfolding_all rfl) ?_))
local macro_rules | `(tactic| decreasing_trivial_pre_omega) => `(tactic| first | (with_reducible refine ok_meth (by with_unfolding_all rfl) ?_))
local macro_rules | `(tactic| decreasing_trivial_pre_omega) => `(tactic| first | (with_reducible refine ok_leaves (by with_unfolding_all rfl) ?_))
local macro_rules | `(tactic| decreasing_trivial_pre_omega) => `(tactic| first | (with_reducible refine ok_walks (by with_unfolding_all rfl) ?_))
local macro_rules | `(tactic| decreasing_trivial_pre_omega) => `(tactic| first | ((with_reducible refine ok_putd (okSet_sv (by with_unfolding_all rfl) (by assumption)) ?_); (try simp only [List.set_cons_zero, List.set_cons_succ])))
local macro_rules | `(tactic| decreasing_trivial_pre_omega) => `(tactic| first | ((with_reducible refine ok_putf (okSet_sv (by with_unfolding_all rfl) (by assumption)) ?_); (try simp only [List.set_cons_zero, List.set_cons_succ])))
local macro_rules | `(tactic| decreasing_trivial_pre_omega) => `(tactic| first | ((with_reducible refine ok_gv (okSet_sv (by with_unfolding_all rfl) (by assumption)) ?_); (try simp only [List.set_cons_zero, List.set_cons_succ])))
local macro_rules | `(tactic| decreasing_trivial_pre_omega) => `(tactic| first | ((with_reducible refine ok_putd (by with_unfolding_all rfl) ?_); (try simp only [List.set_cons_zero, List.set_cons_succ])))
local macro_rules | `(tactic| decreasing_trivial_pre_omega) => `(tactic| first | ((with_reducible refine ok_putf (by with_unfolding_all rfl) ?_); (try simp only [List.set_cons_zero, List.set_cons_succ])))
local macro_rules | `(tactic| decreasing_trivial_pre_omega) => `(tactic| first | ((with_reducible refine ok_gv (by with_unfolding_all rfl) ?_); (try simp only [List.set_cons_zero, List.set_cons_succ])))
local macro_rules | `(tactic| decreasing_trivial_pre_omega) => `(tactic| first | (with_reducible refine ok_neg ?_))
local macro_rules | `(tactic| decreasing_trivial_pre_omega) => `(tactic| first | (with_reducible refine ok_part ?_))
local macro_rules | `(tactic| decreasing_trivial_pre_omega) => `(tactic| first | (with_reducible refine ok_rg1 ?_))
local macro_rules | `(tactic| decreasing_trivial_pre_omega) => `(tactic| first | (with_reducible refine ok_rg2 ?_))
local macro_rules | `(tactic| decreasing_trivial_pre_omega) => `(tactic| first | (with_reducible refine ok_tup ?_))
local macro_rules | `(tactic| decreasing_trivial_pre_omega) => `(tactic| first | (with_reducible refine ok_lst ?_))
local macro_rules | `(tactic| decreasing_trivial_pre_omega) => `(tactic| first | (with_reducible refine sz_and (by with_unfolding_all rfl) ?_))
local macro_rules | `(tactic| decreasing_trivial_pre_omega) => `(tactic| first | (with_reducible refine okw_nil ?_))
local macro_rules | `(tactic| decreasing_trivial_pre_omega) => `(tactic| first | (with_reducible refine okw_lock0 ?_))
local macro_rules | `(tactic| decreasing_trivial_pre_omega) => `(tactic| first | (with_reducible refine loop_lock0 ?_))
local macro_rules | `(tactic| decreasing_trivial_pre_omega) => `(tactic| first | (with_reducible refine okw_cons ?_))
local macro_rules | `(tactic| decreasing_trivial_pre_omega) => `(tactic| first | ((with_reducible refine okw_and (okSet_sv (by with_unfolding_all rfl) (by assumption)) ?_); (try simp only [List.set_cons_zero, List.set_cons_succ])))
local macro_rules | `(tactic| decreasing_trivial_pre_omega) => `(tactic| first | ((with_reducible refine okw_and (by with_unfolding_all rfl) ?_); (try simp only [List.set_cons_zero, List.set_cons_succ])))
local macro_rules | `(tactic| decreasing_trivial_pre_omega) => `(tactic| first | (with_reducible refine thenS_nx ?_))
local macro_rules | `(tactic| decreasing_trivial_pre_omega) => `(tactic| first | (with_reducible refine thenS_rt ?_))
local macro_rules | `(tactic| decreasing_trivial_pre_omega) => `(tactic| first | (with_reducible refine ok_gtup (by with_unfolding_all rfl) (by with_unfolding_all rfl) ?_))
local macro_rules | `(tactic| decreasing_trivial_pre_omega) => `(tactic| first | (with_reducible refine ok_walkd ?_))
local macro_rules | `(tactic| decreasing_trivial_pre_omega) => `(tactic| first | (with_reducible refine ex_int ?_))
local macro_rules | `(tactic| decreasing_trivial_pre_omega) => `(tactic| first | (with_reducible refine ex_int2 ?_))
local macro_rules | `(tactic| decreasing_trivial_pre_omega) => `(tactic| first | (with_reducible refine ex_fin ?_))
local macro_rules | `(tactic| decreasing_trivial_pre_omega) => `(tactic| first | (with_reducible refine o_add ?_))
local macro_rules | `(tactic| decreasing_trivial_pre_omega) => `(tactic| first | (with_reducible refine o_sub ?_))
local macro_rules | `(tactic| decreasing_trivial_pre_omega) => `(tactic| first | (with_reducible refine o_mod (by decide +kernel) ?_))
local macro_rules | `(tactic| decreasing_trivial_pre_omega) => `(tactic| first | (with_reducible refine o_pow ?_ ?_))
local macro_rules | `(tactic| decreasing_trivial_pre_omega) => `(tactic| first | (with_reducible refine o_pow ⟨by decide +kernel⟩ ?_))
theorem tk : TakeOk g__law_take := takeP_ok (p0 := 2147483647) (p1 := 2147483629) (p2 := 2147483587) (p3 := 2147483579) (k1 := 115489) (k2 := 2625) (k3 := 10007) (k4 := 1827) (k5 := 307) rfl (by decide) (by decide) (by decide) (by decide) (by decide) (by decide)
theorem od_lt {o : Nat} (h : Od o) : 2 ≤ o ∧ o ≤ 5 := by rcases h with rfl | rfl | rfl | rfl <;> decide
def P1 : S := asg 2 (lcM (rngM rng1 (consM ((two (kk 1) (callL 0 g__law_take (consM (pure (.int 5)) (pure []))) addR) >>= take) (pure []))) (gv 15) (pure true) ((callL 0 g__law_take (consM ((getv 1) >>= take) (pure []))) >>= take) [15])
theorem p1_ok {o n : Nat} (h : Od o) {p : OO} (hP : Pot n p) (hn : n ≤ 1000) {Q : Fl → List Sl → Prop}
    (q : ∀ p' (row : List Nat), Pot (n + 6) p' → row.length ≤ 5 → (∀ a ∈ row, a < o) → Q .nx [.own true false p', .val (nd o), .own false false (.lst (row.map nd)), .nil, .nil, .nil, .nil, .nil, .nil, .nil, .nil, .nil, .nil, .nil, .nil, .nil, .nil, .nil]) :
    OkS P1 [.own true false p, .val (nd o), .nil, .nil, .nil, .nil, .nil, .nil, .nil, .nil, .nil, .nil, .nil, .nil, .nil, .nil, .nil, .nil] Q := by
  unfold P1
  repeat decreasing_trivial_pre_omega
  refine ⟨true, p, rfl, tk (u := 5) hP (by omega) (by omega) (by omega) fun d p1 hd hP1 => ?_⟩
  simp only [List.set_cons_zero, List.set_cons_succ]
  repeat decreasing_trivial_pre_omega
  refine q_rng1 ?_ ?_
  · exact ⟨by omega⟩
  repeat decreasing_trivial_pre_omega
  rw [show (1 + ((d : Nat) : Int)).toNat = d + 1 by omega, rangeD0]
  have ho := od_lt h
  refine lc_run (fun r acc sl => ∃ (p2 : OO) (row : List Nat), sl = [.own true false p2, .val (nd o), .nil, .nil, .nil, .nil, .nil, .nil, .nil, .nil, .nil, .nil, .nil, .nil, .nil, .nil, .nil, .nil] ∧ acc = row.map nd ∧ Pot (n + 1 + row.length) p2 ∧ row.length + r.length = d + 1 ∧ ∀ a ∈ row, a < o)
    (by simp; omega) ⟨p1, [], rfl, rfl, hP1, by simp, fun a ha => by cases ha⟩ (fun dd r acc sl _ hI => ?_) (fun rs s hI => ?_)
  · obtain ⟨p2, row, rfl, rfl, hP2, hl, hr⟩ := hI
    rw [List.length_cons] at hl
    repeat decreasing_trivial_pre_omega
    refine ⟨fun h => by (cases h), fun _ => ?_⟩
    repeat decreasing_trivial_pre_omega
    refine ⟨true, p2, rfl, tk (u := o) hP2 (by omega) (by omega) (by omega) fun a p3 ha hP3 => ?_⟩
    simp only [List.set_cons_zero, List.set_cons_succ]
    repeat decreasing_trivial_pre_omega
    refine ⟨p3, row ++ [a], rfl, by rw [List.map_append]; rfl, ?_, ?_, fun b hb => ?_⟩
    · rw [List.length_append]; exact hP3
    · rw [List.length_append, List.length_singleton]; omega
    · rcases List.mem_append.mp hb with hb | hb
      · exact hr b hb
      · rw [List.mem_singleton.mp hb]; exact ha
  · obtain ⟨p2, row, rfl, rfl, hP2, hl, hr⟩ := hI
    simp only [lockO, unlockO, backS, backOf, List.getElem?_cons_zero, List.getElem?_cons_succ, List.set_cons_zero, List.set_cons_succ]
    repeat decreasing_trivial_pre_omega
    rw [List.length_nil] at hl
    exact q p2 row (hP2.mono (by omega)) (by omega) hr
def P2 : S := asg 3 (lcM (enumM (getv 2)) (gtup 2 (gcons (gv 16) (gcons (gv 17) gnil))) (twoB (getv 17) (kk 0) neB) ((getv 16) >>= take) [16, 17])
def fT : D → Option D
  | .tuple [.int i, .int a] => if a = 0 then none else some (.int i)
  | _ => none
theorem top_map : ∀ (k : Nat) (row : List Nat), (numbered k (row.map nd)).filterMap fT = (topG k row).map nd
  | _, [] => rfl
  | k, a :: r => by
    rw [List.map_cons, RL.numbered, List.filterMap_cons, topG, top_map (k + 1) r]
    by_cases h : a = 0
    · subst h; rfl
    · have e : fT (.tuple [.int ((k : Nat) : Int), nd a]) = some (nd k) := by
        show (if ((a : Nat) : Int) = 0 then none else some (PyData.int ((k : Nat) : Int))) = _
        rw [if_neg (by omega)]
      simp only [e, if_neg h]; rfl
theorem num_mem {d : D} : ∀ {k : Nat} {row : List Nat}, d ∈ numbered k (row.map nd) → ∃ i a : Nat, d = .tuple [.int (i : Nat), nd a]
  | _, [], h => by simp [RL.numbered] at h
  | k, a :: r, h => by
    rw [List.map_cons, RL.numbered] at h
    rcases List.mem_cons.mp h with rfl | h
    · exact ⟨k, a, rfl⟩
    · exact num_mem h
theorem p2_ok {o : Nat} {p : OO} {row : List Nat} (hl : row.length ≤ 5) {Q : Fl → List Sl → Prop}
    (q : Q .nx [.own true false p, .val (nd o), .own false false (.lst (row.map nd)), .own false false (.lst ((topG 0 row).map nd)), .nil, .nil, .nil, .nil, .nil, .nil, .nil, .nil, .nil, .nil, .nil, .nil, .nil, .nil]) :
    OkS P2 [.own true false p, .val (nd o), .own false false (.lst (row.map nd)), .nil, .nil, .nil, .nil, .nil, .nil, .nil, .nil, .nil, .nil, .nil, .nil, .nil, .nil, .nil] Q := by
  unfold P2
  repeat decreasing_trivial_pre_omega
  simp only [lockO, List.getElem?_cons_zero, List.getElem?_cons_succ, List.set_cons_zero, List.set_cons_succ]
  repeat decreasing_trivial_pre_omega
  refine lc_runP fT ?_ (fun d hd => ?_) ?_
  · show (RL.numbered 0 (row.map nd)).length ≤ _
    rw [numbered_len, List.length_map]; omega
  · obtain ⟨i, a, rfl⟩ := num_mem hd
    repeat decreasing_trivial_pre_omega
    refine ⟨fun h => ?_, fun h => ?_⟩
    · repeat decreasing_trivial_pre_omega
      refine ⟨?_, by first | rfl | trivial⟩
      show (if ((a : Nat) : Int) = 0 then none else some (PyData.int ((i : Nat) : Int))) = _
      rw [if_pos (by simpa using h)]
    · repeat decreasing_trivial_pre_omega
      refine ⟨?_, by first | rfl | trivial⟩
      show (if ((a : Nat) : Int) = 0 then none else some (PyData.int ((i : Nat) : Int))) = _
      rw [if_neg (by simpa using h)]
  · simp only [unlockO, backS, backOf, List.getElem?_cons_zero, List.getElem?_cons_succ, List.set_cons_zero, List.set_cons_succ]
    rw [top_map]
    repeat decreasing_trivial_pre_omega
    exact q
def P3 : S := asg 4 (lcM (rngM rng1 (consM ((getv 1) >>= take) (pure []))) (gv 6) (twoB (callM g__law_at (consM ((getv 1) >>= take) (consM ((getv 2) >>= take) (consM ((getv 6) >>= take) (pure []))))) (kk 0) eqB) ((getv 6) >>= take) [6])
def RowS (row : List Nat) (y : Sl) : Prop := y = .own false false (.lst (row.map nd)) ∨ y = .val (.list (row.map nd))
theorem p3_ok {o : Nat} (h : Od o) {p : OO} {row : List Nat} (hr : ∀ a ∈ row, a < o) {t : Sl} {Q : Fl → List Sl → Prop}
    (q : ∀ y, Q .nx [.own true false p, .val (nd o), y, t, .own false false (.lst ((zerosF o row).map nd)), .nil, .nil, .nil, .nil, .nil, .nil, .nil, .nil, .nil, .nil, .nil, .nil, .nil]) :
    OkS P3 [.own true false p, .val (nd o), .own false false (.lst (row.map nd)), t, .nil, .nil, .nil, .nil, .nil, .nil, .nil, .nil, .nil, .nil, .nil, .nil, .nil, .nil] Q := by
  have ho := od_lt h
  unfold P3
  repeat decreasing_trivial_pre_omega
  refine q_rng1 ?_ ?_
  · exact ⟨by omega⟩
  repeat decreasing_trivial_pre_omega
  rw [show (((o : Nat) : Int)).toNat = o by omega, rangeD0]
  refine lc_run (fun r acc sl => ∃ (y : Sl) (js is : List Nat), RowS row y ∧ sl = [.own true false p, .val (nd o), y, t, .nil, .nil, .nil, .nil, .nil, .nil, .nil, .nil, .nil, .nil, .nil, .nil, .nil, .nil] ∧ r = js.map nd ∧ acc = is.map nd ∧ (∀ a ∈ js, a < o) ∧ is ++ js.filter (fun n => atF o n row.reverse == 0) = zerosF o row) ?_ ?_ (fun d r acc sl _ hI => ?_) (fun rs s hI => ?_)
  · simp; omega
  · exact ⟨_, List.range o, [], .inl rfl, rfl, rfl, rfl, fun a ha => List.mem_range.mp ha, rfl⟩
  · obtain ⟨y, js, is, hy, rfl, hj, rfl, hjs, e⟩ := hI
    cases js with
    | nil => cases hj
    | cons j js =>
      rw [List.map_cons] at hj
      obtain ⟨rfl, rfl⟩ := List.cons.inj hj
      have hj1 := hjs j List.mem_cons_self
      have hjs' : ∀ a ∈ js, a < o := fun a ha => hjs a (List.mem_cons_of_mem _ ha)
      rw [List.filter_cons] at e
      rcases hy with rfl | rfl
      all_goals
        repeat decreasing_trivial_pre_omega
        refine at_ok h hj1 hr ?_
        repeat decreasing_trivial_pre_omega
        refine ⟨fun hb => ?_, fun hb => ?_⟩
        · repeat decreasing_trivial_pre_omega
          have hz : (atF o j row.reverse == 0) = false := by
            rw [beq_eq_false_iff_ne] at hb ⊢
            intro z; exact hb (by rw [z]; rfl)
          rw [hz] at e
          exact ⟨_, js, is, .inr rfl, rfl, rfl, rfl, hjs', e⟩
        · repeat decreasing_trivial_pre_omega
          have hz : (atF o j row.reverse == 0) = true := by
            rw [beq_iff_eq] at hb ⊢
            omega
          rw [if_pos hz] at e
          exact ⟨_, js, is ++ [j], .inr rfl, rfl, rfl, by rw [List.map_append]; rfl, hjs', by rw [List.append_assoc]; exact e⟩
  · obtain ⟨y, js, is, hy, rfl, hj, rfl, hjs, e⟩ := hI
    cases js with
    | cons j js => cases hj
    | nil =>
      rw [List.filter_nil, List.append_nil] at e
      subst e
      simp only [lockO, unlockO, backS, backOf, List.getElem?_cons_zero, List.getElem?_cons_succ, List.set_cons_zero, List.set_cons_succ]
      repeat decreasing_trivial_pre_omega
      exact q y
end W56
namespace W56
open RL PySem
local macro_rules | `(tactic| decreasing_trivial_pre_omega) => `(tactic| first | (with_reducible refine q_item (by with_unfolding_all rfl) ?_))
local macro_rules | `(tactic| decreasing_trivial_pre_omega) => `(tactic| first | (with_reducible refine q_gt (by with_unfolding_all rfl) ?_))
local macro_rules | `(tactic| decreasing_trivial_pre_omega) => `(tactic| first | (with_reducible refine q_lt (by with_unfolding_all rfl) ?_))
local macro_rules | `(tactic| decreasing_trivial_pre_omega) => `(tactic| first | (with_reducible refine q_le (by with_unfolding_all rfl) ?_))
local macro_rules | `(tactic| decreasing_trivial_pre_omega) => `(tactic| first | (with_reducible refine q_ge (by with_unfolding_all rfl) ?_))
local macro_rules | `(tactic| decreasing_trivial_pre_omega) => `(tactic| first | (with_reducible refine q_eq (by with_unfolding_all rfl) ?_))
local macro_rules | `(tactic| decreasing_trivial_pre_omega) => `(tactic| first | (with_reducible refine q_ne (by with_unfolding_all rfl) ?_))
local macro_rules | `(tactic| decreasing_trivial_pre_omega) => `(tactic| first | (with_reducible refine q_intF (by with_unfolding_all rfl) ?_))
local macro_rules | `(tactic| decreasing_trivial_pre_omega) => `(tactic| first | (with_reducible refine q_lenF (by with_unfolding_all rfl) ?_))
local macro_rules | `(tactic| decreasing_trivial_pre_omega) => `(tactic| first | (with_reducible refine q_absF (by with_unfolding_all rfl) ?_))
local macro_rules | `(tactic| decreasing_trivial_pre_omega) => `(tactic| first | (with_reducible refine q_seqOf (by with_unfolding_all rfl) ?_))
local macro_rules | `(tactic| decreasing_trivial_pre_omega) => `(tactic| first | (with_reducible refine q_blD (by with_unfolding_all rfl) ?_))
local macro_rules | `(tactic| decreasing_trivial_pre_omega) => `(tactic| first | (with_reducible refine q_isiF (by with_unfolding_all rfl) ?_))
local macro_rules | `(tactic| decreasing_trivial_pre_omega) => `(tactic| first | (with_reducible refine q_sliceF (by with_unfolding_all rfl) ?_))
local macro_rules | `(tactic| decreasing_trivial_pre_omega) => `(tactic| first | (with_reducible refine q_revF (by with_unfolding_all rfl) ?_))
local macro_rules | `(tactic| decreasing_trivial_pre_omega) => `(tactic| first | (with_reducible refine q_max2F (by with_unfolding_all rfl) ?_))
local macro_rules | `(tactic| decreasing_trivial_pre_omega) => `(tactic| first | (with_reducible refine q_min2F (by with_unfolding_all rfl) ?_))
local macro_rules | `(tactic| decreasing_trivial_pre_omega) => `(tactic| first | (with_reducible refine q_listF (by with_unfolding_all rfl) ?_))
local macro_rules | `(tactic| decreasing_trivial_pre_omega) => `(tactic| first | (with_reducible refine q_tupleF (by with_unfolding_all rfl) ?_))
local macro_rules | `(tactic| decreasing_trivial_pre_omega) => `(tactic| first | (with_reducible refine q_popF (by with_unfolding_all rfl) ?_))
local macro_rules | `(tactic| decreasing_trivial_pre_omega) => `(tactic| first | (with_reducible refine q_rng1 ⟨by decide +kernel⟩ ?_))
local macro_rules | `(tactic| decreasing_trivial_pre_omega) => `(tactic| first | (with_reducible refine q_rng2 ⟨by decide +kernel⟩ ?_))
local macro_rules | `(tactic| decreasing_trivial_pre_omega) => `(tactic| first | (with_reducible refine ok_skip ?_))
local macro_rules | `(tactic| decreasing_trivial_pre_omega) => `(tactic| first | (with_reducible refine ok_brk ?_))
local macro_rules | `(tactic| decreasing_trivial_pre_omega) => `(tactic| first | (with_reducible refine ok_ct ?_))
local macro_rules | `(tactic| decreasing_trivial_pre_omega) => `(tactic| first | (with_reducible refine ok_seq ?_))
local macro_rules | `(tactic| decreasing_trivial_pre_omega) => `(tactic| first | (with_reducible refine ok_if ?_))
local macro_rules | `(tactic| decreasing_trivial_pre_omega) => `(tactic| first | (with_reducible refine ok_twoB ?_))
local macro_rules | `(tactic| decreasing_trivial_pre_omega) => `(tactic| first | (with_reducible refine ok_twoD ?_))
local macro_rules | `(tactic| decreasing_trivial_pre_omega) => `(tactic| first | (with_reducible refine ok_two ?_))
local macro_rules | `(tactic| decreasing_trivial_pre_omega) => `(tactic| first | (with_reducible refine ok_item ?_))
local macro_rules | `(tactic| decreasing_trivial_pre_omega) => `(tactic| first | (with_reducible refine ok_bind ?_))
local macro_rules | `(tactic| decreasing_trivial_pre_omega) => `(tactic| first | (with_reducible refine ok_pure ?_))
local macro_rules | `(tactic| decreasing_trivial_pre_omega) => `(tactic| first | (with_reducible refine ok_peekd ?_))
local macro_rules | `(tactic| decreasing_trivial_pre_omega) => `(tactic| first | (with_reducible refine ok_peekf ?_))
local macro_rules | `(tactic| decreasing_trivial_pre_omega) => `(tactic| first | (with_reducible refine ok_taked ?_))
local macro_rules | `(tactic| decreasing_trivial_pre_omega) => `(tactic| first | (with_reducible refine ok_takef ?_))
local macro_rules | `(tactic| decreasing_trivial_pre_omega) => `(tactic| first | (with_reducible refine ok_cons ?_))
local macro_rules | `(tactic| decreasing_trivial_pre_omega) => `(tactic| first | (with_reducible refine ok_star ?_))
local macro_rules | `(tactic| decreasing_trivial_pre_omega) => `(tactic| first | (with_reducible refine ok_blt ?_))
local macro_rules | `(tactic| decreasing_trivial_pre_omega) => `(tactic| first | (with_reducible refine ok_call ?_))
local macro_rules | `(tactic| decreasing_trivial_pre_omega) => `(tactic| first | (with_reducible refine ok_callK ?_))
local macro_rules | `(tactic| decreasing_trivial_pre_omega) => `(tactic| first | (with_reducible refine ok_peekAll_nil ?_))
local macro_rules | `(tactic| decreasing_trivial_pre_omega) => `(tactic| first | (with_reducible refine ok_peekAll_cons ?_))
local macro_rules | `(tactic| decreasing_trivial_pre_omega) => `(tactic| first | (with_reducible refine ok_asg ?_))
local macro_rules | `(tactic| decreasing_trivial_pre_omega) => `(tactic| first | (with_reducible refine ok_asgT ?_))
local macro_rules | `(tactic| decreasing_trivial_pre_omega) => `(tactic| first | (with_reducible refine ok_settled ?_))
local macro_rules | `(tactic| decreasing_trivial_pre_omega) => `(tactic| first | (with_reducible refine ok_settlef ?_))
local macro_rules | `(tactic| decreasing_trivial_pre_omega) => `(tactic| first | (with_reducible refine ok_ret ?_))
local macro_rules | `(tactic| decreasing_trivial_pre_omega) => `(tactic| first | (with_reducible refine ok_leaved ?_))
local macro_rules | `(tactic| decreasing_trivial_pre_omega) => `(tactic| first | (with_reducible refine ok_leavef ?_))
local macro_rules | `(tactic| decreasing_trivial_pre_omega) => `(tactic| first | (with_reducible refine ok_drop ?_))
local macro_rules | `(tactic| decreasing_trivial_pre_omega) => `(tactic| first | (with_reducible refine ok_val ?_))
local macro_rules | `(tactic| decreasing_trivial_pre_omega) => `(tactic| first | (with_reducible refine ok_not ?_))
local macro_rules | `(tactic| decreasing_trivial_pre_omega) => `(tactic| first | (with_reducible refine ok_isi ?_))
local macro_rules | `(tactic| decreasing_trivial_pre_omega) => `(tactic| first | (with_reducible refine ok_chain ?_))
local macro_rules | `(tactic| decreasing_trivial_pre_omega) => `(tactic| first | (with_reducible refine ok_slice ?_))
local macro_rules | `(tactic| decreasing_trivial_pre_omega) => `(tactic| first | (with_reducible refine ok_rev ?_))
local macro_rules | `(tactic| decreasing_trivial_pre_omega) => `(tactic| first | (with_reducible refine ok_lk1 ?_))
local macro_rules | `(tactic| decreasing_trivial_pre_omega) => `(tactic| first | (with_reducible refine ok_listRg ?_))
local macro_rules | `(tactic| decreasing_trivial_pre_omega) => `(tactic| first | (with_reducible refine ok_tupRg ?_))
local macro_rules | `(tactic| decreasing_trivial_pre_omega) => `(tactic| first | (with_reducible refine ok_par ?_))
local macro_rules | `(tactic| decreasing_trivial_pre_omega) => `(tactic| first | (with_reducible refine ok_settleAll_nil ?_))
local macro_rules | `(tactic| decreasing_trivial_pre_omega) => `(tactic| first | (with_reducible refine ok_settleAll_cons ?_))
local macro_rules | `(tactic| decreasing_trivial_pre_omega) => `(tactic| first | (with_reducible refine ok_putAll_nil ?_))
local macro_rules | `(tactic| decreasing_trivial_pre_omega) => `(tactic| first | (with_reducible refine ok_putAll_cons ?_))
local macro_rules | `(tactic| decreasing_trivial_pre_omega) => `(tactic| first | (with_reducible refine ok_gnil ?_))
local macro_rules | `(tactic| decreasing_trivial_pre_omega) => `(tactic| first | (with_reducible refine ok_gcons ?_))
local macro_rules | `(tactic| decreasing_trivial_pre_omega) => `(tactic| first | (with_reducible refine ok_for ?_))
local macro_rules | `(tactic| decreasing_trivial_pre_omega) => `(tactic| first | (with_reducible refine ok_rng ?_))
local macro_rules | `(tactic| decreasing_trivial_pre_omega) => `(tactic| first | (with_reducible refine ok_enum ?_))
local macro_rules | `(tactic| decreasing_trivial_pre_omega) => `(tactic| first | (with_reducible refine ok_walkf ?_))
local macro_rules | `(tactic| decreasing_trivial_pre_omega) => `(tactic| first | (with_reducible refine ok_lc ?_))
local macro_rules | `(tactic| decreasing_trivial_pre_omega) => `(tactic| first | (with_reducible refine ok_ite ?_))
local macro_rules | `(tactic| decreasing_trivial_pre_omega) => `(tactic| first | (with_reducible refine ok_notD ?_))
local macro_rules | `(tactic| decreasing_trivial_pre_omega) => `(tactic| first | (with_reducible refine ok_andD ?_))
local macro_rules | `(tactic| decreasing_trivial_pre_omega) => `(tactic| first | (with_reducible refine ok_orD ?_))
local macro_rules | `(tactic| decreasing_trivial_pre_omega) => `(tactic| first | (with_reducible refine ok_and ?_))
local macro_rules | `(tactic| decreasing_trivial_pre_omega) => `(tactic| first | (with_reducible refine ok_or ?_))
local macro_rules | `(tactic| decreasing_trivial_pre_omega) => `(tactic| first | (with_reducible refine ok_settles ?_))
local macro_rules | `(tactic| decreasing_trivial_pre_omega) => `(tactic| first | (with_reducible refine ok_geto (by with_unfolding_all rfl) ?_))
local macro_rules | `(tactic| decreasing_trivial_pre_omega) => `(tactic| first | (with_reducible refine ok_getv (by with_unfolding_all rfl) ?_))
local macro_rules | `(tactic| decreasing_trivial_pre_omega) => `(tactic| first | (with_reducible refine ok_peeks (by with_unfolding_all rfl) ?_))
local macro_rules | `(tactic| decreasing_trivial_pre_omega) => `(tactic| first | (with_reducible refine ok_takes (by with_unfolding_all rfl) ?_))
local macro_rules | `(tactic| decreasing_trivial_pre_omega) => `(tactic| first | (with_reducible refine ok_gsub (by with_unfolding_all rfl) ?_))
local macro_rules | `(tactic| decreasing_trivial_pre_omega) => `(tactic| first | (with_reducible refine ok_callL (by with_unfolding_all rfl) ?_))
local macro_rules | `(tactic| decreasing_trivial_pre_omega) => `(tactic| first | (with_reducible refine ok_meth (by with_unfolding_all rfl) ?_))
local macro_rules | `(tactic| decreasing_trivial_pre_omega) => `(tactic| first | (with_reducible refine ok_leaves (by with_unfolding_all rfl) ?_))
local macro_rules | `(tactic| decreasing_trivial_pre_omega) => `(tactic| first | (with_reducible refine ok_walks (by with_unfolding_all rfl) ?_))
local macro_rules | `(tactic| decreasing_trivial_pre_omega) => `(tactic| first | ((with_reducible refine ok_putd (okSet_sv (by with_unfolding_all rfl) (by assumption)) ?_); (try simp only [List.set_cons_zero, List.set_cons_succ])))
local macro_rules | `(tactic| decreasing_trivial_pre_omega) => `(tactic| first | ((with_reducible refine ok_putf (okSet_sv (by with_unfolding_all rfl) (by assumption)) ?_); (try simp only [List.set_cons_zero, List.set_cons_succ])))
local macro_rules | `(tactic| decreasing_trivial_pre_omega) => `(tactic| first | ((with_reducible refine ok_gv (okSet_sv (by with_unfolding_all rfl) (by assumption)) ?_); (try simp only [List.set_cons_zero, List.set_cons_succ])))
local macro_rules | `(tactic| decreasing_trivial_pre_omega) => `(tactic| first | ((with_reducible refine ok_putd (by with_unfolding_all rfl) ?_); (try simp only [List.set_cons_zero, List.set_cons_succ])))
local macro_rules | `(tactic| decreasing_trivial_pre_omega) => `(tactic| first | ((with_reducible refine ok_putf (by with_unfolding_all rfl) ?_); (try simp only [List.set_cons_zero, List.set_cons_succ])))
local macro_rules | `(tactic| decreasing_trivial_pre_omega) => `(tactic| first | ((with_reducible refine ok_gv (by with_unfolding_all rfl) ?_); (try simp only [List.set_cons_zero, List.set_cons_succ])))
local macro_rules | `(tactic| decreasing_trivial_pre_omega) => `(tactic| first | (with_reducible refine ok_neg ?_))
local macro_rules | `(tactic| decreasing_trivial_pre_omega) => `(tactic| first | (with_reducible refine ok_part ?_))
local macro_rules | `(tactic| decreasing_trivial_pre_omega) => `(tactic| first | (with_reducible refine ok_rg1 ?_))
local macro_rules | `(tactic| decreasing_trivial_pre_omega) => `(tactic| first | (with_reducible refine ok_rg2 ?_))
local macro_rules | `(tactic| decreasing_trivial_pre_omega) => `(tactic| first | (with_reducible refine ok_tup ?_))
local macro_rules | `(tactic| decreasing_trivial_pre_omega) => `(tactic| first | (with_reducible refine ok_lst ?_))
local macro_rules | `(tactic| decreasing_trivial_pre_omega) => `(tactic| first | (with_reducible refine sz_and (by with_unfolding_all rfl) ?_))
local macro_rules | `(tactic| decreasing_trivial_pre_omega) => `(tactic| first | (with_reducible refine okw_nil ?_))
local macro_rules | `(tactic| decreasing_trivial_pre_omega) => `(tactic| first | (with_reducible refine okw_lock0 ?_))
local macro_rules | `(tactic| decreasing_trivial_pre_omega) => `(tactic| first | (with_reducible refine loop_lock0 ?_))
local macro_rules | `(tactic| decreasing_trivial_pre_omega) => `(tactic| first | (with_reducible refine okw_cons ?_))
local macro_rules | `(tactic| decreasing_trivial_pre_omega) => `(tactic| first | ((with_reducible refine okw_and (okSet_sv (by with_unfolding_all rfl) (by assumption)) ?_); (try simp only [List.set_cons_zero, List.set_cons_succ])))
local macro_rules | `(tactic| decreasing_trivial_pre_omega) => `(tactic| first | ((with_reducible refine okw_and (by with_unfolding_all rfl) ?_); (try simp only [List.set_cons_zero, List.set_cons_succ])))
local macro_rules | `(tactic| decreasing_trivial_pre_omega) => `(tactic| first | (with_reducible refine thenS_nx ?_))
local macro_rules | `(tactic| decreasing_trivial_pre_omega) => `(tactic| first | (with_reducible refine thenS_rt ?_))
local macro_rules | `(tactic| decreasing_trivial_pre_omega) => `(tactic| first | (with_reducible refine ok_gtup (by with_unfolding_all rfl) (by with_unfolding_all rfl) ?_))
local macro_rules | `(tactic| decreasing_trivial_pre_omega) => `(tactic| first | (with_reducible refine ok_walkd ?_))
local macro_rules | `(tactic| decreasing_trivial_pre_omega) => `(tactic| first | (with_reducible refine ex_int ?_))
local macro_rules | `(tactic| decreasing_trivial_pre_omega) => `(tactic| first | (with_reducible refine ex_int2 ?_))
local macro_rules | `(tactic| decreasing_trivial_pre_omega) => `(tactic| first | (with_reducible refine ex_fin ?_))
local macro_rules | `(tactic| decreasing_trivial_pre_omega) => `(tactic| first | (with_reducible refine o_add ?_))
local macro_rules | `(tactic| decreasing_trivial_pre_omega) => `(tactic| first | (with_reducible refine o_sub ?_))
local macro_rules | `(tactic| decreasing_trivial_pre_omega) => `(tactic| first | (with_reducible refine o_mod (by decide +kernel) ?_))
local macro_rules | `(tactic| decreasing_trivial_pre_omega) => `(tactic| first | (with_reducible refine o_pow ?_ ?_))
local macro_rules | `(tactic| decreasing_trivial_pre_omega) => `(tactic| first | (with_reducible refine o_pow ⟨by decide +kernel⟩ ?_))
abbrev N13 : List Sl := [.nil, .nil, .nil, .nil, .nil, .nil, .nil, .nil, .nil, .nil, .nil, .nil, .nil]
def P4 : S := ifS (andB (twoB (getv 3) (lstM (pure [])) neB) (twoB (ln (getv 4)) ((itemM (getv 3) ((negM (pure (.int 1))) >>= fun d => pure (.d d))) >>= fun d => pure (.d d)) gtB)) (retS ((pure (.bool false)) >>= fun d => pure (.d d))) skipS
theorem lay_nd (ns : List Nat) : ∀ d ∈ ns.map nd, Lay 0 d := fun d hd => by
  obtain ⟨n, _, rfl⟩ := List.mem_map.mp hd
  exact lay_int 0 _
theorem p4_ok {o : Nat} {p : OO} {row : List Nat} (hp : polyB o row = true) {v y : Sl} {Q : Fl → List Sl → Prop}
    (q : Q .nx [.own true false p, v, y, .own false false (.lst ((topG 0 row).map nd)), .own false false (.lst ((zerosF o row).map nd)), .nil, .nil, .nil, .nil, .nil, .nil, .nil, .nil, .nil, .nil, .nil, .nil, .nil]) :
    OkS P4 [.own true false p, v, y, .own false false (.lst ((topG 0 row).map nd)), .own false false (.lst ((zerosF o row).map nd)), .nil, .nil, .nil, .nil, .nil, .nil, .nil, .nil, .nil, .nil, .nil, .nil, .nil] Q := by
  unfold P4
  repeat decreasing_trivial_pre_omega
  refine q_neB (lay_list (k := 0) (lay_nd _)) (lay_list (k := 0) (ds := []) (fun _ h => by cases h)) (by decide) ?_
  rw [eqv_nil_list]
  refine ⟨fun hb => ?_, fun hb => ⟨fun z => by (cases z), fun _ => ?_⟩⟩
  · repeat decreasing_trivial_pre_omega
    have hne : (topG 0 row).map nd ≠ [] := fun z => by rw [z] at hb; cases hb
    have hne2 : topG 0 row ≠ [] := fun z => hne (by rw [z]; rfl)
    have el : ((topG 0 row).map nd).getLast? = some (nd ((topG 0 row).getLast hne2)) := by
      rw [List.getLast?_map, List.getLast?_eq_getLast hne2]; rfl
    refine ⟨nd ((topG 0 row).getLast hne2), ?_, ?_⟩
    · show L2.atI ((topG 0 row).map nd) (-1) = _
      rw [last_int hne, el]
    repeat decreasing_trivial_pre_omega
    refine ⟨fun hz => ?_, fun _ => ?_⟩
    · exfalso
      unfold polyB at hp
      rw [List.getLast?_eq_getLast hne2] at hp
      have h1 := Nat.le_of_ble_eq_true hp
      have h2 := of_decide_eq_true hz
      rw [List.length_map] at h2
      omega
    · repeat decreasing_trivial_pre_omega
      exact q
  · repeat decreasing_trivial_pre_omega
    exact q
def P5 : S := asg 5 (lcM (rngM rng1 (consM ((getv 1) >>= take) (pure []))) (gv 6) (pure true) ((callL 0 g__law_take (consM ((getv 1) >>= take) (pure []))) >>= take) [6])
theorem p5_ok {o n : Nat} (h : Od o) {p : OO} (hP : Pot n p) (hn : n ≤ 1000) {x2 x3 x4 : Sl} {Q : Fl → List Sl → Prop}
    (q : ∀ p' (vs : List Nat), Pot (n + o) p' → vs.length = o → (∀ a ∈ vs, a < o) → Q .nx [.own true false p', .val (nd o), x2, x3, x4, .own false false (.lst (vs.map nd)), .nil, .nil, .nil, .nil, .nil, .nil, .nil, .nil, .nil, .nil, .nil, .nil]) :
    OkS P5 [.own true false p, .val (nd o), x2, x3, x4, .nil, .nil, .nil, .nil, .nil, .nil, .nil, .nil, .nil, .nil, .nil, .nil, .nil] Q := by
  have ho := od_lt h
  unfold P5
  repeat decreasing_trivial_pre_omega
  refine q_rng1 ?_ ?_
  · exact ⟨by omega⟩
  repeat decreasing_trivial_pre_omega
  rw [show (((o : Nat) : Int)).toNat = o by omega, rangeD0]
  refine lc_run (fun r acc sl => ∃ (p2 : OO) (row : List Nat), sl = [.own true false p2, .val (nd o), x2, x3, x4, .nil, .nil, .nil, .nil, .nil, .nil, .nil, .nil, .nil, .nil, .nil, .nil, .nil] ∧ acc = row.map nd ∧ Pot (n + row.length) p2 ∧ row.length + r.length = o ∧ ∀ a ∈ row, a < o)
    (by simp; omega) ⟨p, [], rfl, rfl, hP, by simp, fun a ha => by cases ha⟩ (fun dd r acc sl _ hI => ?_) (fun rs s hI => ?_)
  · obtain ⟨p2, row, rfl, rfl, hP2, hl, hr⟩ := hI
    rw [List.length_cons] at hl
    repeat decreasing_trivial_pre_omega
    refine ⟨fun h => by (cases h), fun _ => ?_⟩
    repeat decreasing_trivial_pre_omega
    refine ⟨true, p2, rfl, tk (u := o) hP2 (by omega) (by omega) (by omega) fun a p3 ha hP3 => ?_⟩
    simp only [List.set_cons_zero, List.set_cons_succ]
    repeat decreasing_trivial_pre_omega
    refine ⟨p3, row ++ [a], rfl, by rw [List.map_append]; rfl, ?_, ?_, fun b hb => ?_⟩
    · rw [List.length_append]; exact hP3
    · rw [List.length_append, List.length_singleton]; omega
    · rcases List.mem_append.mp hb with hb | hb
      · exact hr b hb
      · rw [List.mem_singleton.mp hb]; exact ha
  · obtain ⟨p2, row, rfl, rfl, hP2, hl, hr⟩ := hI
    simp only [lockO, unlockO, backS, backOf, List.getElem?_cons_zero, List.getElem?_cons_succ, List.set_cons_zero, List.set_cons_succ]
    repeat decreasing_trivial_pre_omega
    rw [List.length_nil] at hl
    exact q p2 row (hP2.mono (by omega)) (by omega) hr
/-! ### through unlike places goes just one -/
def lagStep (o n p v q : Nat) : Nat := if q = p then v else tm o v (tm o (pl o n (ng o q)) (iv o (pl o p (ng o q))))
def lagF (o n p v : Nat) : Nat := (List.range o).foldl (lagStep o n p) v
def lagAll (o : Nat) : Bool := (List.range o).all fun n => (List.range o).all fun p => (List.range o).all fun v => lagF o n p v == (if n = p then v else 0) && pl o v 0 == v && pl o 0 v == v
theorem lag2 : lagAll 2 = true := by decide +kernel
theorem lag3 : lagAll 3 = true := by decide +kernel
theorem lag4 : lagAll 4 = true := by decide +kernel
theorem lag5 : lagAll 5 = true := by decide +kernel
theorem lag_ok {o n p v : Nat} (h : Od o) (hn : n < o) (hp : p < o) (hv : v < o) : lagF o n p v = (if n = p then v else 0) ∧ pl o v 0 = v ∧ pl o 0 v = v := by
  have f : lagAll o = true := by
    rcases h with rfl | rfl | rfl | rfl
    · exact lag2
    · exact lag3
    · exact lag4
    · exact lag5
  unfold lagAll at f
  have f1 := List.all_eq_true.mp (List.all_eq_true.mp (List.all_eq_true.mp f n (List.mem_range.mpr hn)) p (List.mem_range.mpr hp)) v (List.mem_range.mpr hv)
  simp only [Bool.and_eq_true, beq_iff_eq] at f1
  exact ⟨f1.1.1, f1.1.2, f1.2⟩
def L1 : S := forS (rngM rng1 (consM ((getv 1) >>= take) (pure []))) (gv 10)
    (ifS (twoB (getv 10) (getv 8) neB) (seqS (asg 11 (callM g_plus (consM ((getv 1) >>= take) (consM ((getv 6) >>= take) (consM ((callM g__law_turned (consM ((getv 1) >>= take) (consM ((getv 10) >>= take) (pure [])))) >>= take) (pure []))))))
    (seqS (asg 12 (callM g_inverse (consM ((getv 1) >>= take) (consM ((callM g_plus (consM ((getv 1) >>= take) (consM ((getv 8) >>= take) (consM ((callM g__law_turned (consM ((getv 1) >>= take) (consM ((getv 10) >>= take) (pure [])))) >>= take) (pure []))))) >>= take) (pure [])))))
    (asg 9 (callM g_times (consM ((getv 1) >>= take) (consM ((getv 9) >>= take) (consM ((callM g_times (consM ((getv 1) >>= take) (consM ((getv 11) >>= take) (consM ((getv 12) >>= take) (pure []))))) >>= take) (pure [])))))))) skipS)
theorem l1_ok {o n p v : Nat} (h : Od o) (hn : n < o) (hp : p < o) (hv : v < o) {x0 x2 x3 x4 x5 x7 x10 x11 x12 : Sl} (s10 : SV x10) (s11 : SV x11) (s12 : SV x12) {Q : Fl → List Sl → Prop}
    (q : ∀ y10 y11 y12, SV y10 → SV y11 → SV y12 → Q .nx [x0, .val (nd o), x2, x3, x4, x5, .val (nd n), x7, .val (nd p), .val (nd (lagF o n p v)), y10, y11, y12, .nil, .nil, .nil, .nil, .nil]) :
    OkS L1 [x0, .val (nd o), x2, x3, x4, x5, .val (nd n), x7, .val (nd p), .val (nd v), x10, x11, x12, .nil, .nil, .nil, .nil, .nil] Q := by
  have ho := od_lt h
  unfold L1
  repeat decreasing_trivial_pre_omega
  refine q_rng1 ?_ ?_
  · exact ⟨by omega⟩
  repeat decreasing_trivial_pre_omega
  rw [show (((o : Nat) : Int)).toNat = o by omega, rangeD0]
  refine loop_inv (fun r sl => ∃ (w : Nat) (js : List Nat) (y10 y11 y12 : Sl), SV y10 ∧ SV y11 ∧ SV y12 ∧ sl = [x0, .val (nd o), x2, x3, x4, x5, .val (nd n), x7, .val (nd p), .val (nd w), y10, y11, y12, .nil, .nil, .nil, .nil, .nil] ∧ w < o ∧ r = js.map nd ∧ (∀ a ∈ js, a < o) ∧ js.foldl (lagStep o n p) w = lagF o n p v)
    ⟨v, List.range o, x10, x11, x12, s10, s11, s12, rfl, hv, rfl, fun a ha => List.mem_range.mp ha, rfl⟩ (fun d r sl _ hI => ?_) (fun sl hI => ?_)
  · obtain ⟨w, js, y10, y11, y12, t10, t11, t12, rfl, hw, hj, hjs, e⟩ := hI
    cases js with
    | nil => cases hj
    | cons j js =>
      rw [List.map_cons] at hj
      obtain ⟨rfl, rfl⟩ := List.cons.inj hj
      have hj1 := hjs j List.mem_cons_self
      have hjs' : ∀ a ∈ js, a < o := fun a ha => hjs a (List.mem_cons_of_mem _ ha)
      rw [List.foldl_cons] at e
      have fj := f_one h hj1
      have a1 := f_two h hn fj.2.1
      have a2 := f_two h hp fj.2.1
      repeat decreasing_trivial_pre_omega
      refine ⟨fun hb => ?_, fun hb => ?_⟩
      · have hne : j ≠ p := fun z => by
          subst z; simp at hb
        have nz := (f_two h hp hj1).2.2.2.2 (fun z => hne z.symm)
        have b1 := (f_one h a2.2.1).2.2 nz
        have c1 := f_two h a1.2.1 b1.2
        have c2 := f_two h hw c1.2.2.2.1
        repeat decreasing_trivial_pre_omega
        refine ⟨_, fj.1, ?_⟩
        repeat decreasing_trivial_pre_omega
        refine ⟨_, a1.1, ?_⟩
        repeat decreasing_trivial_pre_omega
        refine ⟨_, fj.1, ?_⟩
        repeat decreasing_trivial_pre_omega
        refine ⟨_, a2.1, ?_⟩
        repeat decreasing_trivial_pre_omega
        refine ⟨_, b1.1, ?_⟩
        repeat decreasing_trivial_pre_omega
        refine ⟨_, c1.2.2.1, ?_⟩
        repeat decreasing_trivial_pre_omega
        refine ⟨_, c2.2.2.1, ?_⟩
        repeat decreasing_trivial_pre_omega
        refine ⟨_, js, _, _, _, sv_val, sv_val, sv_val, rfl, c2.2.2.2.1, rfl, hjs', ?_⟩
        rw [← e]
        unfold lagStep
        rw [if_neg hne]
      · have heq : j = p := by
          have z : ((j : Nat) : Int) = (p : Nat) := by simpa using hb
          omega
        repeat decreasing_trivial_pre_omega
        refine ⟨w, js, _, _, _, sv_val, t11, t12, rfl, hw, rfl, hjs', ?_⟩
        rw [← e]
        unfold lagStep
        rw [if_pos heq]
  · obtain ⟨w, js, y10, y11, y12, t10, t11, t12, rfl, hw, hj, hjs, e⟩ := hI
    cases js with
    | cons j js => cases hj
    | nil =>
      have e2 : w = lagF o n p v := e
      rw [e2]
      exact q y10 y11 y12 t10 t11 t12
def L2 : S := forS (rngM rng1 (consM ((getv 1) >>= take) (pure []))) (gv 8)
    (seqS (asg 9 ((itemM (getv 5) (getv 8)) >>= fun d => pure (.d d)))
    (seqS L1
    (asg 7 (callM g_plus (consM ((getv 1) >>= take) (consM ((getv 7) >>= take) (consM ((getv 9) >>= take) (pure []))))))))
theorem l2_ok {o n : Nat} (h : Od o) (hn : n < o) {vs : List Nat} (hv : vs.length = o) (hvs : ∀ a ∈ vs, a < o) {x0 x2 x3 x4 x8 x9 x10 x11 x12 : Sl} (s8 : SV x8) (s9 : SV x9) (s10 : SV x10) (s11 : SV x11) (s12 : SV x12) {Q : Fl → List Sl → Prop}
    (q : ∀ y8 y9 y10 y11 y12, SV y8 → SV y9 → SV y10 → SV y11 → SV y12 → Q .nx [x0, .val (nd o), x2, x3, x4, .own false false (.lst (vs.map nd)), .val (nd n), .val (nd (vs.getD n 0)), y8, y9, y10, y11, y12, .nil, .nil, .nil, .nil, .nil]) :
    OkS L2 [x0, .val (nd o), x2, x3, x4, .own false false (.lst (vs.map nd)), .val (nd n), .val (nd 0), x8, x9, x10, x11, x12, .nil, .nil, .nil, .nil, .nil] Q := by
  have ho := od_lt h
  unfold L2
  repeat decreasing_trivial_pre_omega
  refine q_rng1 ?_ ?_
  · exact ⟨by omega⟩
  repeat decreasing_trivial_pre_omega
  rw [show (((o : Nat) : Int)).toNat = o by omega, rangeD0]
  refine loop_inv (fun r sl => ∃ (w k m : Nat) (y8 y9 y10 y11 y12 : Sl), SV y8 ∧ SV y9 ∧ SV y10 ∧ SV y11 ∧ SV y12 ∧ sl = [x0, .val (nd o), x2, x3, x4, .own false false (.lst (vs.map nd)), .val (nd n), .val (nd w), y8, y9, y10, y11, y12, .nil, .nil, .nil, .nil, .nil] ∧ w < o ∧ r = (List.range' k m).map nd ∧ k + m = o ∧ w = (if n < k then vs.getD n 0 else 0))
    ⟨0, 0, o, x8, x9, x10, x11, x12, s8, s9, s10, s11, s12, rfl, by omega, by rw [← List.range_eq_range'], by omega, by rw [if_neg (by omega)]⟩ (fun d r sl _ hI => ?_) (fun sl hI => ?_)
  · obtain ⟨w, k, m, y8, y9, y10, y11, y12, t8, t9, t10, t11, t12, rfl, hw, hj, hk, e⟩ := hI
    cases m with
    | zero => cases hj
    | succ m =>
      rw [List.range'_succ, List.map_cons] at hj
      obtain ⟨rfl, rfl⟩ := List.cons.inj hj
      have hkl : k < vs.length := by omega
      have hvk := hvs vs[k] (List.getElem_mem hkl)
      have lg := lag_ok h hn (show k < o by omega) hvk
      have hf : lagF o n k vs[k] < o := by
        rw [lg.1]; split
        · exact hvk
        · omega
      have sm := f_two h hw hf
      repeat decreasing_trivial_pre_omega
      refine ⟨nd vs[k], ?_, ?_⟩
      · have := nth_int (ds := vs.map nd) (d := k) (by rw [List.length_map]; exact hkl)
        rw [List.getElem_map] at this
        exact this
      repeat decreasing_trivial_pre_omega
      refine l1_ok h hn (show k < o by omega) hvk t10 t11 t12 fun z10 z11 z12 u10 u11 u12 => ?_
      repeat decreasing_trivial_pre_omega
      refine ⟨_, sm.1, ?_⟩
      repeat decreasing_trivial_pre_omega
      refine ⟨_, k + 1, m, _, _, z10, z11, z12, sv_val, sv_val, u10, u11, u12, rfl, sm.2.1, rfl, by omega, ?_⟩
      rw [lg.1]
      by_cases hnk : n = k
      · subst hnk
        rw [if_pos rfl, if_pos (by omega)]
        rw [if_neg (by omega)] at e
        rw [e, lg.2.2]
        simp [hkl]
      · rw [if_neg hnk]
        have lw := lag_ok h hn (show k < o by omega) hw
        rw [lw.2.1, e]
        by_cases hlt : n < k
        · rw [if_pos hlt, if_pos (by omega)]
        · rw [if_neg hlt, if_neg (by omega)]
  · obtain ⟨w, k, m, y8, y9, y10, y11, y12, t8, t9, t10, t11, t12, rfl, hw, hj, hk, e⟩ := hI
    cases m with
    | succ m => rw [List.range'_succ] at hj; cases hj
    | zero =>
      rw [if_pos (by omega)] at e
      rw [e]
      exact q y8 y9 y10 y11 y12 t8 t9 t10 t11 t12
def P6 : S := forS (rngM rng1 (consM ((getv 1) >>= take) (pure []))) (gv 6)
    (seqS (asg 7 (kk 0))
    (seqS L2
    (ifS (twoB (getv 7) ((itemM (getv 5) (getv 6)) >>= fun d => pure (.d d)) neB) (retS ((pure (.bool false)) >>= fun d => pure (.d d))) skipS)))
theorem p6_ok {o : Nat} (h : Od o) {vs : List Nat} (hv : vs.length = o) (hvs : ∀ a ∈ vs, a < o) {x0 x2 x3 x4 : Sl} {Q : Fl → List Sl → Prop}
    (q : ∀ y6 y7 y8 y9 y10 y11 y12, SV y6 → Q .nx [x0, .val (nd o), x2, x3, x4, .own false false (.lst (vs.map nd)), y6, y7, y8, y9, y10, y11, y12, .nil, .nil, .nil, .nil, .nil]) :
    OkS P6 [x0, .val (nd o), x2, x3, x4, .own false false (.lst (vs.map nd)), .nil, .nil, .nil, .nil, .nil, .nil, .nil, .nil, .nil, .nil, .nil, .nil] Q := by
  have ho := od_lt h
  unfold P6
  repeat decreasing_trivial_pre_omega
  refine q_rng1 ?_ ?_
  · exact ⟨by omega⟩
  repeat decreasing_trivial_pre_omega
  rw [show (((o : Nat) : Int)).toNat = o by omega, rangeD0]
  refine loop_inv (fun r sl => ∃ (js : List Nat) (y6 y7 y8 y9 y10 y11 y12 : Sl), SV y6 ∧ SV y7 ∧ SV y8 ∧ SV y9 ∧ SV y10 ∧ SV y11 ∧ SV y12 ∧ sl = [x0, .val (nd o), x2, x3, x4, .own false false (.lst (vs.map nd)), y6, y7, y8, y9, y10, y11, y12, .nil, .nil, .nil, .nil, .nil] ∧ r = js.map nd ∧ (∀ a ∈ js, a < o))
    ⟨List.range o, _, _, _, _, _, _, _, sv_nil, sv_nil, sv_nil, sv_nil, sv_nil, sv_nil, sv_nil, rfl, rfl, fun a ha => List.mem_range.mp ha⟩ (fun d r sl _ hI => ?_) (fun sl hI => ?_)
  · obtain ⟨js, y6, y7, y8, y9, y10, y11, y12, t6, t7, t8, t9, t10, t11, t12, rfl, hj, hjs⟩ := hI
    cases js with
    | nil => cases hj
    | cons j js =>
      rw [List.map_cons] at hj
      obtain ⟨rfl, rfl⟩ := List.cons.inj hj
      have hj1 := hjs j List.mem_cons_self
      have hjs' : ∀ a ∈ js, a < o := fun a ha => hjs a (List.mem_cons_of_mem _ ha)
      have hjl : j < vs.length := by omega
      repeat decreasing_trivial_pre_omega
      refine l2_ok h hj1 hv hvs t8 t9 t10 t11 t12 fun z8 z9 z10 z11 z12 u8 u9 u10 u11 u12 => ?_
      repeat decreasing_trivial_pre_omega
      refine ⟨nd vs[j], ?_, ?_⟩
      · have := nth_int (ds := vs.map nd) (d := j) (by rw [List.length_map]; exact hjl)
        rw [List.getElem_map] at this
        exact this
      repeat decreasing_trivial_pre_omega
      have eg : vs.getD j 0 = vs[j] := by simp [hjl]
      refine ⟨fun hb => ?_, fun _ => ?_⟩
      · rw [eg] at hb; simp at hb
      · repeat decreasing_trivial_pre_omega
        exact ⟨js, _, _, z8, z9, z10, z11, z12, sv_val, sv_val, u8, u9, u10, u11, u12, rfl, rfl, hjs'⟩
  · obtain ⟨js, y6, y7, y8, y9, y10, y11, y12, t6, t7, t8, t9, t10, t11, t12, rfl, hj, hjs⟩ := hI
    exact q y6 y7 y8 y9 y10 y11 y12 t6
end W56
namespace W56
open RL PySem
local macro_rules | `(tactic| decreasing_trivial_pre_omega) => `(tactic| first | (with_reducible refine q_item (by with_unfolding_all rfl) ?_))
local macro_rules | `(tactic| decreasing_trivial_pre_omega) => `(tactic| first | (with_reducible refine q_gt (by with_unfolding_all rfl) ?_))
local macro_rules | `(tactic| decreasing_trivial_pre_omega) => `(tactic| first | (with_reducible refine q_lt (by with_unfolding_all rfl) ?_))
local macro_rules | `(tactic| decreasing_trivial_pre_omega) => `(tactic| first | (with_reducible refine q_le (by with_unfolding_all rfl) ?_))
local macro_rules | `(tactic| decreasing_trivial_pre_omega) => `(tactic| first | (with_reducible refine q_ge (by with_unfolding_all rfl) ?_))
local macro_rules | `(tactic| decreasing_trivial_pre_omega) => `(tactic| first | (with_reducible refine q_eq (by with_unfolding_all rfl) ?_))
local macro_rules | `(tactic| decreasing_trivial_pre_omega) => `(tactic| first | (with_reducible refine q_ne (by with_unfolding_all rfl) ?_))
local macro_rules | `(tactic| decreasing_trivial_pre_omega) => `(tactic| first | (with_reducible refine q_intF (by with_unfolding_all rfl) ?_))
local macro_rules | `(tactic| decreasing_trivial_pre_omega) => `(tactic| first | (with_reducible refine q_lenF (by with_unfolding_all rfl) ?_))
local macro_rules | `(tactic| decreasing_trivial_pre_omega) => `(tactic| first | (with_reducible refine q_absF (by with_unfolding_all rfl) ?_))
local macro_rules | `(tactic| decreasing_trivial_pre_omega) => `(tactic| first | (with_reducible refine q_seqOf (by with_unfolding_all rfl) ?_))
local macro_rules | `(tactic| decreasing_trivial_pre_omega) => `(tactic| first | (with_reducible refine q_blD (by with_unfolding_all rfl) ?_))
local macro_rules | `(tactic| decreasing_trivial_pre_omega) => `(tactic| first | (with_reducible refine q_isiF (by with_unfolding_all rfl) ?_))
local macro_rules | `(tactic| decreasing_trivial_pre_omega) => `(tactic| first | (with_reducible refine q_sliceF (by with_unfolding_all rfl) ?_))
local macro_rules | `(tactic| decreasing_trivial_pre_omega) => `(tactic| first | (with_reducible refine q_revF (by with_unfolding_all rfl) ?_))
local macro_rules | `(tactic| decreasing_trivial_pre_omega) => `(tactic| first | (with_reducible refine q_max2F (by with_unfolding_all rfl) ?_))
local macro_rules | `(tactic| decreasing_trivial_pre_omega) => `(tactic| first | (with_reducible refine q_min2F (by with_unfolding_all rfl) ?_))
local macro_rules | `(tactic| decreasing_trivial_pre_omega) => `(tactic| first | (with_reducible refine q_listF (by with_unfolding_all rfl) ?_))
local macro_rules | `(tactic| decreasing_trivial_pre_omega) => `(tactic| first | (with_reducible refine q_tupleF (by with_unfolding_all rfl) ?_))
local macro_rules | `(tactic| decreasing_trivial_pre_omega) => `(tactic| first | (with_reducible refine q_popF (by with_unfolding_all rfl) ?_))
local macro_rules | `(tactic| decreasing_trivial_pre_omega) => `(tactic| first | (with_reducible refine q_rng1 ⟨by decide +kernel⟩ ?_))
local macro_rules | `(tactic| decreasing_trivial_pre_omega) => `(tactic| first | (with_reducible refine q_rng2 ⟨by decide +kernel⟩ ?_))
local macro_rules | `(tactic| decreasing_trivial_pre_omega) => `(tactic| first | (with_reducible refine ok_skip ?_))
local macro_rules | `(tactic| decreasing_trivial_pre_omega) => `(tactic| first | (with_reducible refine ok_brk ?_))
local macro_rules | `(tactic| decreasing_trivial_pre_omega) => `(tactic| first | (with_reducible refine ok_ct ?_))
local macro_rules | `(tactic| decreasing_trivial_pre_omega) => `(tactic| first | (with_reducible refine ok_seq ?_))
local macro_rules | `(tactic| decreasing_trivial_pre_omega) => `(tactic| first | (with_reducible refine ok_if ?_))
local macro_rules | `(tactic| decreasing_trivial_pre_omega) => `(tactic| first | (with_reducible refine ok_twoB ?_))
local macro_rules | `(tactic| decreasing_trivial_pre_omega) => `(tactic| first | (with_reducible refine ok_twoD ?_))
local macro_rules | `(tactic| decreasing_trivial_pre_omega) => `(tactic| first | (with_reducible refine ok_two ?_))
local macro_rules | `(tactic| decreasing_trivial_pre_omega) => `(tactic| first | (with_reducible refine ok_item ?_))
local macro_rules | `(tactic| decreasing_trivial_pre_omega) => `(tactic| first | (with_reducible refine ok_bind ?_))
local macro_rules | `(tactic| decreasing_trivial_pre_omega) => `(tactic| first | (with_reducible refine ok_pure ?_))
local macro_rules | `(tactic| decreasing_trivial_pre_omega) => `(tactic| first | (with_reducible refine ok_peekd ?_))
local macro_rules | `(tactic| decreasing_trivial_pre_omega) => `(tactic| first | (with_reducible refine ok_peekf ?_))
local macro_rules | `(tactic| decreasing_trivial_pre_omega) => `(tactic| first | (with_reducible refine ok_taked ?_))
local macro_rules | `(tactic| decreasing_trivial_pre_omega) => `(tactic| first | (with_reducible refine ok_takef ?_))
local macro_rules | `(tactic| decreasing_trivial_pre_omega) => `(tactic| first | (with_reducible refine ok_cons ?_))
local macro_rules | `(tactic| decreasing_trivial_pre_omega) => `(tactic| first | (with_reducible refine ok_star ?_))
local macro_rules | `(tactic| decreasing_trivial_pre_omega) => `(tactic| first | (with_reducible refine ok_blt ?_))
local macro_rules | `(tactic| decreasing_trivial_pre_omega) => `(tactic| first | (with_reducible refine ok_call ?_))
local macro_rules | `(tactic| decreasing_trivial_pre_omega) => `(tactic| first | (with_reducible refine ok_callK ?_))
local macro_rules | `(tactic| decreasing_trivial_pre_omega) => `(tactic| first | (with_reducible refine ok_peekAll_nil ?_))
local macro_rules | `(tactic| decreasing_trivial_pre_omega) => `(tactic| first | (with_reducible refine ok_peekAll_cons ?_))
local macro_rules | `(tactic| decreasing_trivial_pre_omega) => `(tactic| first | (with_reducible refine ok_asg ?_))
local macro_rules | `(tactic| decreasing_trivial_pre_omega) => `(tactic| first | (with_reducible refine ok_asgT ?_))
local macro_rules | `(tactic| decreasing_trivial_pre_omega) => `(tactic| first | (with_reducible refine ok_settled ?_))
local macro_rules | `(tactic| decreasing_trivial_pre_omega) => `(tactic| first | (with_reducible refine ok_settlef ?_))
local macro_rules | `(tactic| decreasing_trivial_pre_omega) => `(tactic| first | (with_reducible refine ok_ret ?_))
local macro_rules | `(tactic| decreasing_trivial_pre_omega) => `(tactic| first | (with_reducible refine ok_leaved ?_))
local macro_rules | `(tactic| decreasing_trivial_pre_omega) => `(tactic| first | (with_reducible refine ok_leavef ?_))
local macro_rules | `(tactic| decreasing_trivial_pre_omega) => `(tactic| first | (with_reducible refine ok_drop ?_))
local macro_rules | `(tactic| decreasing_trivial_pre_omega) => `(tactic| first | (with_reducible refine ok_val ?_))
local macro_rules | `(tactic| decreasing_trivial_pre_omega) => `(tactic| first | (with_reducible refine ok_not ?_))
local macro_rules | `(tactic| decreasing_trivial_pre_omega) => `(tactic| first | (with_reducible refine ok_isi ?_))
local macro_rules | `(tactic| decreasing_trivial_pre_omega) => `(tactic| first | (with_reducible refine ok_chain ?_))
local macro_rules | `(tactic| decreasing_trivial_pre_omega) => `(tactic| first | (with_reducible refine ok_slice ?_))
local macro_rules | `(tactic| decreasing_trivial_pre_omega) => `(tactic| first | (with_reducible refine ok_rev ?_))
local macro_rules | `(tactic| decreasing_trivial_pre_omega) => `(tactic| first | (with_reducible refine ok_lk1 ?_))
local macro_rules | `(tactic| decreasing_trivial_pre_omega) => `(tactic| first | (with_reducible refine ok_listRg ?_))
local macro_rules | `(tactic| decreasing_trivial_pre_omega) => `(tactic| first | (with_reducible refine ok_tupRg ?_))
local macro_rules | `(tactic| decreasing_trivial_pre_omega) => `(tactic| first | (with_reducible refine ok_par ?_))
local macro_rules | `(tactic| decreasing_trivial_pre_omega) => `(tactic| first | (with_reducible refine ok_settleAll_nil ?_))
local macro_rules | `(tactic| decreasing_trivial_pre_omega) => `(tactic| first | (with_reducible refine ok_settleAll_cons ?_))
local macro_rules | `(tactic| decreasing_trivial_pre_omega) => `(tactic| first | (with_reducible refine ok_putAll_nil ?_))
local macro_rules | `(tactic| decreasing_trivial_pre_omega) => `(tactic| first | (with_reducible refine ok_putAll_cons ?_))
local macro_rules | `(tactic| decreasing_trivial_pre_omega) => `(tactic| first | (with_reducible refine ok_gnil ?_))
local macro_rules | `(tactic| decreasing_trivial_pre_omega) => `(tactic| first | (with_reducible refine ok_gcons ?_))
local macro_rules | `(tactic| decreasing_trivial_pre_omega) => `(tactic| first | (with_reducible refine ok_for ?_))
local macro_rules | `(tactic| decreasing_trivial_pre_omega) => `(tactic| first | (with_reducible refine ok_rng ?_))
local macro_rules | `(tactic| decreasing_trivial_pre_omega) => `(tactic| first | (with_reducible refine ok_enum ?_))
local macro_rules | `(tactic| decreasing_trivial_pre_omega) => `(tactic| first | (with_reducible refine ok_walkf ?_))
local macro_rules | `(tactic| decreasing_trivial_pre_omega) => `(tactic| first | (with_reducible refine ok_lc ?_))
local macro_rules | `(tactic| decreasing_trivial_pre_omega) => `(tactic| first | (with_reducible refine ok_ite ?_))
local macro_rules | `(tactic| decreasing_trivial_pre_omega) => `(tactic| first | (with_reducible refine ok_notD ?_))
local macro_rules | `(tactic| decreasing_trivial_pre_omega) => `(tactic| first | (with_reducible refine ok_andD ?_))
local macro_rules | `(tactic| decreasing_trivial_pre_omega) => `(tactic| first | (with_reducible refine ok_orD ?_))
local macro_rules | `(tactic| decreasing_trivial_pre_omega) => `(tactic| first | (with_reducible refine ok_and ?_))
local macro_rules | `(tactic| decreasing_trivial_pre_omega) => `(tactic| first | (with_reducible refine ok_or ?_))
local macro_rules | `(tactic| decreasing_trivial_pre_omega) => `(tactic| first | (with_reducible refine ok_settles ?_))
local macro_rules | `(tactic| decreasing_trivial_pre_omega) => `(tactic| first | (with_reducible refine ok_geto (by with_unfolding_all rfl) ?_))
local macro_rules | `(tactic| decreasing_trivial_pre_omega) => `(tactic| first | (with_reducible refine ok_getv (by with_unfolding_all rfl) ?_))
local macro_rules | `(tactic| decreasing_trivial_pre_omega) => `(tactic| first | (with_reducible refine ok_peeks (by with_unfolding_all rfl) ?_))
local macro_rules | `(tactic| decreasing_trivial_pre_omega) => `(tactic| first | (with_reducible refine ok_takes (by with_unfolding_all rfl) ?_))
local macro_rules | `(tactic| decreasing_trivial_pre_omega) => `(tactic| first | (with_reducible refine ok_gsub (by with_unfolding_all rfl) ?_))
local macro_rules | `(tactic| decreasing_trivial_pre_omega) => `(tactic| first | (with_reducible refine ok_callL (by with_unfolding_all rfl) ?_))
local macro_rules | `(tactic| decreasing_trivial_pre_omega) => `(tactic| first | (with_reducible refine ok_meth (by with_unfolding_all rfl) ?_))
local macro_rules | `(tactic| decreasing_trivial_pre_omega) => `(tactic| first | (with_reducible refine ok_leaves (by with_unfolding_all rfl) ?_))
local macro_rules | `(tactic| decreasing_trivial_pre_omega) => `(tactic| first | (with_reducible refine ok_walks (by with_unfolding_all rfl) ?_))
local macro_rules | `(tactic| decreasing_trivial_pre_omega) => `(tactic| first | ((with_reducible refine ok_putd (okSet_sv (by with_unfolding_all rfl) (by assumption)) ?_); (try simp only [List.set_cons_zero, List.set_cons_succ])))
local macro_rules | `(tactic| decreasing_trivial_pre_omega) => `(tactic| first | ((with_reducible refine ok_putf (okSet_sv (by with_unfolding_all rfl) (by assumption)) ?_); (try simp only [List.set_cons_zero, List.set_cons_succ])))
local macro_rules | `(tactic| decreasing_trivial_pre_omega) => `(tactic| first | ((with_reducible refine ok_gv (okSet_sv (by with_unfolding_all rfl) (by assumption)) ?_); (try simp only [List.set_cons_zero, List.set_cons_succ])))
local macro_rules | `(tactic| decreasing_trivial_pre_omega) => `(tactic| first | ((with_reducible refine ok_putd (by with_unfolding_all rfl) ?_); (try simp only [List.set_cons_zero, List.set_cons_succ])))
local macro_rules | `(tactic| decreasing_trivial_pre_omega) => `(tactic| first | ((with_reducible refine ok_putf (by with_unfolding_all rfl) ?_); (try simp only [List.set_cons_zero, List.set_cons_succ])))
local macro_rules | `(tactic| decreasing_trivial_pre_omega) => `(tactic| first | ((with_reducible refine ok_gv (by with_unfolding_all rfl) ?_); (try simp only [List.set_cons_zero, List.set_cons_succ])))
local macro_rules | `(tactic| decreasing_trivial_pre_omega) => `(tactic| first | (with_reducible refine ok_neg ?_))
local macro_rules | `(tactic| decreasing_trivial_pre_omega) => `(tactic| first | (with_reducible refine ok_part ?_))
local macro_rules | `(tactic| decreasing_trivial_pre_omega) => `(tactic| first | (with_reducible refine ok_rg1 ?_))
local macro_rules | `(tactic| decreasing_trivial_pre_omega) => `(tactic| first | (with_reducible refine ok_rg2 ?_))
local macro_rules | `(tactic| decreasing_trivial_pre_omega) => `(tactic| first | (with_reducible refine ok_tup ?_))
local macro_rules | `(tactic| decreasing_trivial_pre_omega) => `(tactic| first | (with_reducible refine ok_lst ?_))
local macro_rules | `(tactic| decreasing_trivial_pre_omega) => `(tactic| first | (with_reducible refine sz_and (by with_unfolding_all rfl) ?_))
local macro_rules | `(tactic| decreasing_trivial_pre_omega) => `(tactic| first | (with_reducible refine okw_nil ?_))
local macro_rules | `(tactic| decreasing_trivial_pre_omega) => `(tactic| first | (with_reducible refine okw_lock0 ?_))
local macro_rules | `(tactic| decreasing_trivial_pre_omega) => `(tactic| first | (with_reducible refine loop_lock0 ?_))
local macro_rules | `(tactic| decreasing_trivial_pre_omega) => `(tactic| first | (with_reducible refine okw_cons ?_))
local macro_rules | `(tactic| decreasing_trivial_pre_omega) => `(tactic| first | ((with_reducible refine okw_and (okSet_sv (by with_unfolding_all rfl) (by assumption)) ?_); (try simp only [List.set_cons_zero, List.set_cons_succ])))
local macro_rules | `(tactic| decreasing_trivial_pre_omega) => `(tactic| first | ((with_reducible refine okw_and (by with_unfolding_all rfl) ?_); (try simp only [List.set_cons_zero, List.set_cons_succ])))
local macro_rules | `(tactic| decreasing_trivial_pre_omega) => `(tactic| first | (with_reducible refine thenS_nx ?_))
local macro_rules | `(tactic| decreasing_trivial_pre_omega) => `(tactic| first | (with_reducible refine thenS_rt ?_))
local macro_rules | `(tactic| decreasing_trivial_pre_omega) => `(tactic| first | (with_reducible refine ok_gtup (by with_unfolding_all rfl) (by with_unfolding_all rfl) ?_))
local macro_rules | `(tactic| decreasing_trivial_pre_omega) => `(tactic| first | (with_reducible refine ok_walkd ?_))
local macro_rules | `(tactic| decreasing_trivial_pre_omega) => `(tactic| first | (with_reducible refine ex_int ?_))
local macro_rules | `(tactic| decreasing_trivial_pre_omega) => `(tactic| first | (with_reducible refine ex_int2 ?_))
local macro_rules | `(tactic| decreasing_trivial_pre_omega) => `(tactic| first | (with_reducible refine ex_fin ?_))
local macro_rules | `(tactic| decreasing_trivial_pre_omega) => `(tactic| first | (with_reducible refine o_add ?_))
local macro_rules | `(tactic| decreasing_trivial_pre_omega) => `(tactic| first | (with_reducible refine o_sub ?_))
local macro_rules | `(tactic| decreasing_trivial_pre_omega) => `(tactic| first | (with_reducible refine o_mod (by decide +kernel) ?_))
local macro_rules | `(tactic| decreasing_trivial_pre_omega) => `(tactic| first | (with_reducible refine o_pow ?_ ?_))
local macro_rules | `(tactic| decreasing_trivial_pre_omega) => `(tactic| first | (with_reducible refine o_pow ⟨by decide +kernel⟩ ?_))
def sumP (o k : Nat) (js : List Nat) (t : Nat) : Nat := js.foldl (fun t a => pl o t (pw o a k)) t
def pwAll (o : Nat) : Bool := (List.range (o + 2)).all fun k => (List.range o).all (fun a => isN (g__law_power [nd o, nd a, nd k]) (pw o a k) && Nat.ble (pw o a k + 1) o) && (k == 0 || sumP o k (List.range o) 0 == (if k % (o - 1) = 0 then ng o 1 else 0))
theorem pw2 : pwAll 2 = true := by decide +kernel
theorem pw3 : pwAll 3 = true := by decide +kernel
theorem pw4 : pwAll 4 = true := by decide +kernel
theorem pw5 : pwAll 5 = true := by decide +kernel
theorem pw_ok {o k : Nat} (h : Od o) (hk : k < o + 2) : (∀ a, a < o → g__law_power [nd o, nd a, nd k] = some (.d (nd (pw o a k))) ∧ pw o a k < o) ∧ (k ≠ 0 → sumP o k (List.range o) 0 = (if k % (o - 1) = 0 then ng o 1 else 0)) := by
  have f : pwAll o = true := by
    rcases h with rfl | rfl | rfl | rfl
    · exact pw2
    · exact pw3
    · exact pw4
    · exact pw5
  unfold pwAll at f
  have f1 := List.all_eq_true.mp f k (List.mem_range.mpr hk)
  rw [Bool.and_eq_true, Bool.or_eq_true, beq_iff_eq, beq_iff_eq] at f1
  refine ⟨fun a ha => ?_, fun h0 => f1.2.resolve_left h0⟩
  have f2 := List.all_eq_true.mp f1.1 a (List.mem_range.mpr ha)
  rw [Bool.and_eq_true] at f2
  exact ⟨isN_ok f2.1, Nat.le_of_ble_eq_true f2.2⟩
def L3 : S := forS (rngM rng1 (consM ((getv 1) >>= take) (pure []))) (gv 6)
    (asg 14 (callM g_plus (consM ((getv 1) >>= take) (consM ((getv 14) >>= take) (consM ((callM g__law_power (consM ((getv 1) >>= take) (consM ((getv 6) >>= take) (consM ((getv 13) >>= take) (pure []))))) >>= take) (pure []))))))
theorem l3_ok {o k : Nat} (h : Od o) (hk : k < o + 2) {x0 x2 x3 x4 x5 x6 x7 x8 x9 x10 x11 x12 x15 x16 x17 : Sl} (s6 : SV x6) {Q : Fl → List Sl → Prop}
    (q : ∀ y6, SV y6 → Q .nx [x0, .val (nd o), x2, x3, x4, x5, y6, x7, x8, x9, x10, x11, x12, .val (nd k), .val (nd (sumP o k (List.range o) 0)), x15, x16, x17]) :
    OkS L3 [x0, .val (nd o), x2, x3, x4, x5, x6, x7, x8, x9, x10, x11, x12, .val (nd k), .val (nd 0), x15, x16, x17] Q := by
  have ho := od_lt h
  unfold L3
  repeat decreasing_trivial_pre_omega
  refine q_rng1 ?_ ?_
  · exact ⟨by omega⟩
  repeat decreasing_trivial_pre_omega
  rw [show (((o : Nat) : Int)).toNat = o by omega, rangeD0]
  refine loop_inv (fun r sl => ∃ (w : Nat) (js : List Nat) (y6 : Sl), SV y6 ∧ sl = [x0, .val (nd o), x2, x3, x4, x5, y6, x7, x8, x9, x10, x11, x12, .val (nd k), .val (nd w), x15, x16, x17] ∧ w < o ∧ r = js.map nd ∧ (∀ a ∈ js, a < o) ∧ sumP o k js w = sumP o k (List.range o) 0)
    ⟨0, List.range o, x6, s6, rfl, by omega, rfl, fun a ha => List.mem_range.mp ha, rfl⟩ (fun d r sl _ hI => ?_) (fun sl hI => ?_)
  · obtain ⟨w, js, y6, t6, rfl, hw, hj, hjs, e⟩ := hI
    cases js with
    | nil => cases hj
    | cons j js =>
      rw [List.map_cons] at hj
      obtain ⟨rfl, rfl⟩ := List.cons.inj hj
      have hj1 := hjs j List.mem_cons_self
      have hjs' : ∀ a ∈ js, a < o := fun a ha => hjs a (List.mem_cons_of_mem _ ha)
      have pj := (pw_ok h hk).1 j hj1
      have sm := f_two h hw pj.2
      repeat decreasing_trivial_pre_omega
      refine ⟨_, pj.1, ?_⟩
      repeat decreasing_trivial_pre_omega
      refine ⟨_, sm.1, ?_⟩
      repeat decreasing_trivial_pre_omega
      exact ⟨_, js, _, sv_val, rfl, sm.2.1, rfl, hjs', e⟩
  · obtain ⟨w, js, y6, t6, rfl, hw, hj, hjs, e⟩ := hI
    cases js with
    | cons j js => cases hj
    | nil =>
      have e2 : w = sumP o k (List.range o) 0 := e
      rw [e2]
      exact q y6 t6
def P7 : S := forS (rngM rng2 (consM (pure (.int 1)) (consM ((two (getv 1) (kk 2) addR) >>= take) (pure [])))) (gv 13)
    (seqS (asg 14 (kk 0))
    (seqS L3
    (ifS (twoB (getv 14) (iteM (twoB (two (bltM intF (consM (getv 13) (pure []))) (two (getv 1) (kk 1) subR) modR) (kk 0) eqB) (callM g__law_turned (consM ((getv 1) >>= take) (consM (pure (.int 1)) (pure [])))) (kk 0)) neB) (retS ((pure (.bool false)) >>= fun d => pure (.d d))) skipS)))
theorem p7_ok {o : Nat} (h : Od o) {x0 x2 x3 x4 x5 x6 x7 x8 x9 x10 x11 x12 x15 x16 x17 : Sl} (s6 : SV x6) {Q : Fl → List Sl → Prop}
    (q : ∀ y6 y13 y14, Q .nx [x0, .val (nd o), x2, x3, x4, x5, y6, x7, x8, x9, x10, x11, x12, y13, y14, x15, x16, x17]) :
    OkS P7 [x0, .val (nd o), x2, x3, x4, x5, x6, x7, x8, x9, x10, x11, x12, .nil, .nil, x15, x16, x17] Q := by
  have ho := od_lt h
  unfold P7
  repeat decreasing_trivial_pre_omega
  refine q_rng2 ?_ ?_
  · exact ⟨by omega⟩
  repeat decreasing_trivial_pre_omega
  have er : rangeD 1 (((o : Nat) : Int) + 2 - 1).toNat = (List.range (o + 1)).map fun i => nd (i + 1) := by
    rw [show (((o : Nat) : Int) + 2 - 1).toNat = o + 1 by omega]
    unfold rangeD
    refine List.map_congr_left fun i _ => ?_
    unfold nd
    congr 1
    omega
  rw [er]
  refine loop_inv (fun r sl => ∃ (js : List Nat) (y6 y13 y14 : Sl), SV y6 ∧ SV y13 ∧ SV y14 ∧ sl = [x0, .val (nd o), x2, x3, x4, x5, y6, x7, x8, x9, x10, x11, x12, y13, y14, x15, x16, x17] ∧ r = js.map (fun i => nd (i + 1)) ∧ (∀ a ∈ js, a < o + 1))
    ⟨List.range (o + 1), x6, .nil, .nil, s6, sv_nil, sv_nil, rfl, rfl, fun a ha => List.mem_range.mp ha⟩ (fun d r sl _ hI => ?_) (fun sl hI => ?_)
  · obtain ⟨js, y6, y13, y14, t6, t13, t14, rfl, hj, hjs⟩ := hI
    cases js with
    | nil => cases hj
    | cons j js =>
      rw [List.map_cons] at hj
      obtain ⟨rfl, rfl⟩ := List.cons.inj hj
      have hj1 := hjs j List.mem_cons_self
      have hjs' : ∀ a ∈ js, a < o + 1 := fun a ha => hjs a (List.mem_cons_of_mem _ ha)
      have es := (pw_ok h (show j + 1 < o + 2 by omega)).2 (by omega)
      have t1 := f_one h (show 1 < o by omega)
      repeat decreasing_trivial_pre_omega
      refine l3_ok h (by omega) t6 fun z6 u6 => ?_
      repeat decreasing_trivial_pre_omega
      refine o_mod (by omega) ?_
      repeat decreasing_trivial_pre_omega
      have em : (((j + 1 : Nat) : Int) % (((o : Nat) : Int) - 1) == 0) = decide ((j + 1) % (o - 1) = 0) := by
        rw [show ((o : Nat) : Int) - 1 = ((o - 1 : Nat) : Int) by omega, ← Int.natCast_emod]
        by_cases hz : (j + 1) % (o - 1) = 0
        · rw [hz]; rfl
        · rw [decide_eq_false hz, beq_eq_false_iff_ne]
          omega
      rw [es]
      refine ⟨fun hb => ?_, fun hb => ?_⟩
      · rw [em] at hb
        have hb' := of_decide_eq_true hb
        rw [if_pos hb']
        repeat decreasing_trivial_pre_omega
        refine ⟨_, t1.1, ?_⟩
        repeat decreasing_trivial_pre_omega
        refine ⟨fun hz => by (simp at hz), fun _ => ?_⟩
        repeat decreasing_trivial_pre_omega
        exact ⟨js, _, _, _, u6, sv_val, sv_val, rfl, rfl, hjs'⟩
      · rw [em] at hb
        have hb' := of_decide_eq_false hb
        rw [if_neg hb']
        repeat decreasing_trivial_pre_omega
        refine ⟨fun hz => by (simp at hz), fun _ => ?_⟩
        repeat decreasing_trivial_pre_omega
        exact ⟨js, _, _, _, u6, sv_val, sv_val, rfl, rfl, hjs'⟩
  · obtain ⟨js, y6, y13, y14, t6, t13, t14, rfl, hj, hjs⟩ := hI
    exact q y6 y13 y14
/-! ### the law -/
theorem right_ok {o n : Nat} (h : Od o) {p : OO} (hP : Pot n p) (hn : n ≤ 100) {Q : Rv × OO → Prop} (q : ∀ p', Pot (n + 20) p' → Q (.d (.bool true), p')) : OkO (g__law_is_polynomial_right p [nd o]) Q := by
  have ho := od_lt h
  unfold g__law_is_polynomial_right
  refine run_lent [.own true false p, .val (nd o), .nil, .nil, .nil, .nil, .nil, .nil, .nil, .nil, .nil, .nil, .nil, .nil, .nil, .nil, .nil, .nil] (by rfl) (by rfl) ?_
  show OkS (seqS P1 (seqS P2 (seqS P3 (seqS P4 (seqS P5 (seqS P6 (seqS P7 (retS ((pure (.bool true)) >>= fun d => pure (.d d)))))))))) _ _
  repeat decreasing_trivial_pre_omega
  refine p1_ok h hP (by omega) fun p1 row hP1 hl hr => ?_
  repeat decreasing_trivial_pre_omega
  refine p2_ok hl ?_
  repeat decreasing_trivial_pre_omega
  refine p3_ok h hr fun y => ?_
  repeat decreasing_trivial_pre_omega
  refine p4_ok (poly_ok h hl hr) ?_
  repeat decreasing_trivial_pre_omega
  refine p5_ok h hP1 (by omega) fun p2 vs hP2 hv hvs => ?_
  repeat decreasing_trivial_pre_omega
  refine p6_ok h hv hvs fun y6 y7 y8 y9 y10 y11 y12 t6 => ?_
  repeat decreasing_trivial_pre_omega
  refine p7_ok h t6 fun z6 z13 z14 => ?_
  repeat decreasing_trivial_pre_omega
  exact ⟨_, _, _, rfl, rfl, q _ (hP2.mono (by omega))⟩
end W56
namespace W56
open RL PySem
local macro_rules | `(tactic| decreasing_trivial_pre_omega) => `(tactic| first | (with_reducible refine q_item (by with_unfolding_all rfl) ?_))
local macro_rules | `(tactic| decreasing_trivial_pre_omega) => `(tactic| first | (with_reducible refine q_gt (by with_unfolding_all rfl) ?_))
local macro_rules | `(tactic| decreasing_trivial_pre_omega) => `(tactic| first | (with_reducible refine q_lt (by with_unfolding_all rfl) ?_))
local macro_rules | `(tactic| decreasing_trivial_pre_omega) => `(tactic| first | (with_reducible refine q_le (by with_unfolding_all rfl) ?_))
local macro_rules | `(tactic| decreasing_trivial_pre_omega) => `(tactic| first | (with_reducible refine q_ge (by with_unfolding_all rfl) ?_))
local macro_rules | `(tactic| decreasing_trivial_pre_omega) => `(tactic| first | (with_reducible refine q_eq (by with_unfolding_all rfl) ?_))
local macro_rules | `(tactic| decreasing_trivial_pre_omega) => `(tactic| first | (with_reducible refine q_ne (by with_unfolding_all rfl) ?_))
local macro_rules | `(tactic| decreasing_trivial_pre_omega) => `(tactic| first | (with_reducible refine q_intF (by with_unfolding_all rfl) ?_))
local macro_rules | `(tactic| decreasing_trivial_pre_omega) => `(tactic| first | (with_reducible refine q_lenF (by with_unfolding_all rfl) ?_))
local macro_rules | `(tactic| decreasing_trivial_pre_omega) => `(tactic| first | (with_reducible refine q_absF (by with_unfolding_all rfl) ?_))
local macro_rules | `(tactic| decreasing_trivial_pre_omega) => `(tactic| first | (with_reducible refine q_seqOf (by with_unfolding_all rfl) ?_))
local macro_rules | `(tactic| decreasing_trivial_pre_omega) => `(tactic| first | (with_reducible refine q_blD (by with_unfolding_all rfl) ?_))
local macro_rules | `(tactic| decreasing_trivial_pre_omega) => `(tactic| first | (with_reducible refine q_isiF (by with_unfolding_all rfl) ?_))
local macro_rules | `(tactic| decreasing_trivial_pre_omega) => `(tactic| first | (with_reducible refine q_sliceF (by with_unfolding_all rfl) ?_))
local macro_rules | `(tactic| decreasing_trivial_pre_omega) => `(tactic| first | (with_reducible refine q_revF (by with_unfolding_all rfl) ?_))
local macro_rules | `(tactic| decreasing_trivial_pre_omega) => `(tactic| first | (with_reducible refine q_max2F (by with_unfolding_all rfl) ?_))
local macro_rules | `(tactic| decreasing_trivial_pre_omega) => `(tactic| first | (with_reducible refine q_min2F (by with_unfolding_all rfl) ?_))
local macro_rules | `(tactic| decreasing_trivial_pre_omega) => `(tactic| first | (with_reducible refine q_listF (by with_unfolding_all rfl) ?_))
local macro_rules | `(tactic| decreasing_trivial_pre_omega) => `(tactic| first | (with_reducible refine q_tupleF (by with_unfolding_all rfl) ?_))
local macro_rules | `(tactic| decreasing_trivial_pre_omega) => `(tactic| first | (with_reducible refine q_popF (by with_unfolding_all rfl) ?_))
local macro_rules | `(tactic| decreasing_trivial_pre_omega) => `(tactic| first | (with_reducible refine q_rng1 ⟨by decide +kernel⟩ ?_))
local macro_rules | `(tactic| decreasing_trivial_pre_omega) => `(tactic| first | (with_reducible refine q_rng2 ⟨by decide +kernel⟩ ?_))
local macro_rules | `(tactic| decreasing_trivial_pre_omega) => `(tactic| first | (with_reducible refine ok_skip ?_))
local macro_rules | `(tactic| decreasing_trivial_pre_omega) => `(tactic| first | (with_reducible refine ok_brk ?_))
local macro_rules | `(tactic| decreasing_trivial_pre_omega) => `(tactic| first | (with_reducible refine ok_ct ?_))
local macro_rules | `(tactic| decreasing_trivial_pre_omega) => `(tactic| first | (with_reducible refine ok_seq ?_))
local macro_rules | `(tactic| decreasing_trivial_pre_omega) => `(tactic| first | (with_reducible refine ok_if ?_))
local macro_rules | `(tactic| decreasing_trivial_pre_omega) => `(tactic| first | (with_reducible refine ok_twoB ?_))
local macro_rules | `(tactic| decreasing_trivial_pre_omega) => `(tactic| first | (with_reducible refine ok_twoD ?_))
local macro_rules | `(tactic| decreasing_trivial_pre_omega) => `(tactic| first | (with_reducible refine ok_two ?_))
local macro_rules | `(tactic| decreasing_trivial_pre_omega) => `(tactic| first | (with_reducible refine ok_item ?_))
local macro_rules | `(tactic| decreasing_trivial_pre_omega) => `(tactic| first | (with_reducible refine ok_bind ?_))
local macro_rules | `(tactic| decreasing_trivial_pre_omega) => `(tactic| first | (with_reducible refine ok_pure ?_))
local macro_rules | `(tactic| decreasing_trivial_pre_omega) => `(tactic| first | (with_reducible refine ok_peekd ?_))
local macro_rules | `(tactic| decreasing_trivial_pre_omega) => `(tactic| first | (with_reducible refine ok_peekf ?_))
local macro_rules | `(tactic| decreasing_trivial_pre_omega) => `(tactic| first | (with_reducible refine ok_taked ?_))
local macro_rules | `(tactic| decreasing_trivial_pre_omega) => `(tactic| first | (with_reducible refine ok_takef ?_))
local macro_rules | `(tactic| decreasing_trivial_pre_omega) => `(tactic| first | (with_reducible refine ok_cons ?_))
local macro_rules | `(tactic| decreasing_trivial_pre_omega) => `(tactic| first | (with_reducible refine ok_star ?_))
local macro_rules | `(tactic| decreasing_trivial_pre_omega) => `(tactic| first | (with_reducible refine ok_blt ?_))
local macro_rules | `(tactic| decreasing_trivial_pre_omega) => `(tactic| first | (with_reducible refine ok_call ?_))
local macro_rules | `(tactic| decreasing_trivial_pre_omega) => `(tactic| first | (with_reducible refine ok_callK ?_))
local macro_rules | `(tactic| decreasing_trivial_pre_omega) => `(tactic| first | (with_reducible refine ok_peekAll_nil ?_))
local macro_rules | `(tactic| decreasing_trivial_pre_omega) => `(tactic| first | (with_reducible refine ok_peekAll_cons ?_))
local macro_rules | `(tactic| decreasing_trivial_pre_omega) => `(tactic| first | (with_reducible refine ok_asg ?_))
local macro_rules | `(tactic| decreasing_trivial_pre_omega) => `(tactic| first | (with_reducible refine ok_asgT ?_))
local macro_rules | `(tactic| decreasing_trivial_pre_omega) => `(tactic| first | (with_reducible refine ok_settled ?_))
local macro_rules | `(tactic| decreasing_trivial_pre_omega) => `(tactic| first | (with_reducible refine ok_settlef ?_))
local macro_rules | `(tactic| decreasing_trivial_pre_omega) => `(tactic| first | (with_reducible refine ok_ret ?_))
local macro_rules | `(tactic| decreasing_trivial_pre_omega) => `(tactic| first | (with_reducible refine ok_leaved ?_))
local macro_rules | `(tactic| decreasing_trivial_pre_omega) => `(tactic| first | (with_reducible refine ok_leavef ?_))
local macro_rules | `(tactic| decreasing_trivial_pre_omega) => `(tactic| first | (with_reducible refine ok_drop ?_))
local macro_rules | `(tactic| decreasing_trivial_pre_omega) => `(tactic| first | (with_reducible refine ok_val ?_))
local macro_rules | `(tactic| decreasing_trivial_pre_omega) => `(tactic| first | (with_reducible refine ok_not ?_))
local macro_rules | `(tactic| decreasing_trivial_pre_omega) => `(tactic| first | (with_reducible refine ok_isi ?_))
local macro_rules | `(tactic| decreasing_trivial_pre_omega) => `(tactic| first | (with_reducible refine ok_chain ?_))
local macro_rules | `(tactic| decreasing_trivial_pre_omega) => `(tactic| first | (with_reducible refine ok_slice ?_))
local macro_rules | `(tactic| decreasing_trivial_pre_omega) => `(tactic| first | (with_reducible refine ok_rev ?_))
local macro_rules | `(tactic| decreasing_trivial_pre_omega) => `(tactic| first | (with_reducible refine ok_lk1 ?_))
local macro_rules | `(tactic| decreasing_trivial_pre_omega) => `(tactic| first | (with_reducible refine ok_listRg ?_))
local macro_rules | `(tactic| decreasing_trivial_pre_omega) => `(tactic| first | (with_reducible refine ok_tupRg ?_))
local macro_rules | `(tactic| decreasing_trivial_pre_omega) => `(tactic| first | (with_reducible refine ok_par ?_))
local macro_rules | `(tactic| decreasing_trivial_pre_omega) => `(tactic| first | (with_reducible refine ok_settleAll_nil ?_))
local macro_rules | `(tactic| decreasing_trivial_pre_omega) => `(tactic| first | (with_reducible refine ok_settleAll_cons ?_))
local macro_rules | `(tactic| decreasing_trivial_pre_omega) => `(tactic| first | (with_reducible refine ok_putAll_nil ?_))
local macro_rules | `(tactic| decreasing_trivial_pre_omega) => `(tactic| first | (with_reducible refine ok_putAll_cons ?_))
local macro_rules | `(tactic| decreasing_trivial_pre_omega) => `(tactic| first | (with_reducible refine ok_gnil ?_))
local macro_rules | `(tactic| decreasing_trivial_pre_omega) => `(tactic| first | (with_reducible refine ok_gcons ?_))
local macro_rules | `(tactic| decreasing_trivial_pre_omega) => `(tactic| first | (with_reducible refine ok_for ?_))
local macro_rules | `(tactic| decreasing_trivial_pre_omega) => `(tactic| first | (with_reducible refine ok_rng ?_))
local macro_rules | `(tactic| decreasing_trivial_pre_omega) => `(tactic| first | (with_reducible refine ok_enum ?_))
local macro_rules | `(tactic| decreasing_trivial_pre_omega) => `(tactic| first | (with_reducible refine ok_walkf ?_))
local macro_rules | `(tactic| decreasing_trivial_pre_omega) => `(tactic| first | (with_reducible refine ok_lc ?_))
local macro_rules | `(tactic| decreasing_trivial_pre_omega) => `(tactic| first | (with_reducible refine ok_ite ?_))
local macro_rules | `(tactic| decreasing_trivial_pre_omega) => `(tactic| first | (with_reducible refine ok_notD ?_))
local macro_rules | `(tactic| decreasing_trivial_pre_omega) => `(tactic| first | (with_reducible refine ok_andD ?_))
local macro_rules | `(tactic| decreasing_trivial_pre_omega) => `(tactic| first | (with_reducible refine ok_orD ?_))
local macro_rules | `(tactic| decreasing_trivial_pre_omega) => `(tactic| first | (with_reducible refine ok_and ?_))
local macro_rules | `(tactic| decreasing_trivial_pre_omega) => `(tactic| first | (with_reducible refine ok_or ?_))
local macro_rules | `(tactic| decreasing_trivial_pre_omega) => `(tactic| first | (with_reducible refine ok_settles ?_))
local macro_rules | `(tactic| decreasing_trivial_pre_omega) => `(tactic| first | (with_reducible refine ok_geto (by with_unfolding_all rfl) ?_))
local macro_rules | `(tactic| decreasing_trivial_pre_omega) => `(tactic| first | (with_reducible refine ok_getv (by with_unfolding_all rfl) ?_))
local macro_rules | `(tactic| decreasing_trivial_pre_omega) => `(tactic| first | (with_reducible refine ok_peeks (by with_unfolding_all rfl) ?_))
local macro_rules | `(tactic| decreasing_trivial_pre_omega) => `(tactic| first | (with_reducible refine ok_takes (by with_unfolding_all rfl) ?_))
local macro_rules | `(tactic| decreasing_trivial_pre_omega) => `(tactic| first | (with_reducible refine ok_gsub (by with_unfolding_all rfl) ?_))
local macro_rules | `(tactic| decreasing_trivial_pre_omega) => `(tactic| first | (with_reducible refine ok_callL (by with_unfolding_all rfl) ?_))
local macro_rules | `(tactic| decreasing_trivial_pre_omega) => `(tactic| first | (with_reducible refine ok_meth (by with_unfolding_all rfl) ?_))
local macro_rules | `(tactic| decreasing_trivial_pre_omega) => `(tactic| first | (with_reducible refine ok_leaves (by with_unfolding_all rfl) ?_))
local macro_rules | `(tactic| decreasing_trivial_pre_omega) => `(tactic| first | (with_reducible refine ok_walks (by with_unfolding_all rfl) ?_))
local macro_rules | `(tactic| decreasing_trivial_pre_omega) => `(tactic| first | ((with_reducible refine ok_putd (okSet_sv (by with_unfolding_all rfl) (by assumption)) ?_); (try simp only [List.set_cons_zero, List.set_cons_succ])))
local macro_rules | `(tactic| decreasing_trivial_pre_omega) => `(tactic| first | ((with_reducible refine ok_putf (okSet_sv (by with_unfolding_all rfl) (by assumption)) ?_); (try simp only [List.set_cons_zero, List.set_cons_succ])))
local macro_rules | `(tactic| decreasing_trivial_pre_omega) => `(tactic| first | ((with_reducible refine ok_gv (okSet_sv (by with_unfolding_all rfl) (by assumption)) ?_); (try simp only [List.set_cons_zero, List.set_cons_succ])))
local macro_rules | `(tactic| decreasing_trivial_pre_omega) => `(tactic| first | ((with_reducible refine ok_putd (by with_unfolding_all rfl) ?_); (try simp only [List.set_cons_zero, List.set_cons_succ])))
local macro_rules | `(tactic| decreasing_trivial_pre_omega) => `(tactic| first | ((with_reducible refine ok_putf (by with_unfolding_all rfl) ?_); (try simp only [List.set_cons_zero, List.set_cons_succ])))
local macro_rules | `(tactic| decreasing_trivial_pre_omega) => `(tactic| first | ((with_reducible refine ok_gv (by with_unfolding_all rfl) ?_); (try simp only [List.set_cons_zero, List.set_cons_succ])))
local macro_rules | `(tactic| decreasing_trivial_pre_omega) => `(tactic| first | (with_reducible refine ok_neg ?_))
local macro_rules | `(tactic| decreasing_trivial_pre_omega) => `(tactic| first | (with_reducible refine ok_part ?_))
local macro_rules | `(tactic| decreasing_trivial_pre_omega) => `(tactic| first | (with_reducible refine ok_rg1 ?_))
local macro_rules | `(tactic| decreasing_trivial_pre_omega) => `(tactic| first | (with_reducible refine ok_rg2 ?_))
local macro_rules | `(tactic| decreasing_trivial_pre_omega) => `(tactic| first | (with_reducible refine ok_tup ?_))
local macro_rules | `(tactic| decreasing_trivial_pre_omega) => `(tactic| first | (with_reducible refine ok_lst ?_))
local macro_rules | `(tactic| decreasing_trivial_pre_omega) => `(tactic| first | (with_reducible refine sz_and (by with_unfolding_all rfl) ?_))
local macro_rules | `(tactic| decreasing_trivial_pre_omega) => `(tactic| first | (with_reducible refine okw_nil ?_))
local macro_rules | `(tactic| decreasing_trivial_pre_omega) => `(tactic| first | (with_reducible refine okw_lock0 ?_))
local macro_rules | `(tactic| decreasing_trivial_pre_omega) => `(tactic| first | (with_reducible refine loop_lock0 ?_))
local macro_rules | `(tactic| decreasing_trivial_pre_omega) => `(tactic| first | (with_reducible refine okw_cons ?_))
local macro_rules | `(tactic| decreasing_trivial_pre_omega) => `(tactic| first | ((with_reducible refine okw_and (okSet_sv (by with_unfolding_all rfl) (by assumption)) ?_); (try simp only [List.set_cons_zero, List.set_cons_succ])))
local macro_rules | `(tactic| decreasing_trivial_pre_omega) => `(tactic| first | ((with_reducible refine okw_and (by with_unfolding_all rfl) ?_); (try simp only [List.set_cons_zero, List.set_cons_succ])))
local macro_rules | `(tactic| decreasing_trivial_pre_omega) => `(tactic| first | (with_reducible refine thenS_nx ?_))
local macro_rules | `(tactic| decreasing_trivial_pre_omega) => `(tactic| first | (with_reducible refine thenS_rt ?_))
local macro_rules | `(tactic| decreasing_trivial_pre_omega) => `(tactic| first | (with_reducible refine ok_gtup (by with_unfolding_all rfl) (by with_unfolding_all rfl) ?_))
local macro_rules | `(tactic| decreasing_trivial_pre_omega) => `(tactic| first | (with_reducible refine ok_walkd ?_))
local macro_rules | `(tactic| decreasing_trivial_pre_omega) => `(tactic| first | (with_reducible refine ex_int ?_))
local macro_rules | `(tactic| decreasing_trivial_pre_omega) => `(tactic| first | (with_reducible refine ex_int2 ?_))
local macro_rules | `(tactic| decreasing_trivial_pre_omega) => `(tactic| first | (with_reducible refine ex_fin ?_))
local macro_rules | `(tactic| decreasing_trivial_pre_omega) => `(tactic| first | (with_reducible refine o_add ?_))
local macro_rules | `(tactic| decreasing_trivial_pre_omega) => `(tactic| first | (with_reducible refine o_sub ?_))
local macro_rules | `(tactic| decreasing_trivial_pre_omega) => `(tactic| first | (with_reducible refine o_mod (by decide +kernel) ?_))
local macro_rules | `(tactic| decreasing_trivial_pre_omega) => `(tactic| first | (with_reducible refine o_pow ?_ ?_))
local macro_rules | `(tactic| decreasing_trivial_pre_omega) => `(tactic| first | (with_reducible refine o_pow ⟨by decide +kernel⟩ ?_))
def isT (r : Option Rv) : Bool := match r with
  | some (.d (.bool true)) => true
  | _ => false
theorem isT_ok {r : Option Rv} (h : isT r = true) : r = some (.d (.bool true)) := by
  unfold isT at h
  split at h
  · rfl
  · cases h
theorem pr2 : isT (g__law_are_powers_right [.int 2]) = true := by decide +kernel
theorem pr3 : isT (g__law_are_powers_right [.int 3]) = true := by decide +kernel
theorem pr4 : isT (g__law_are_powers_right [.int 4]) = true := by decide +kernel
theorem pr5 : isT (g__law_are_powers_right [.int 5]) = true := by decide +kernel
theorem pot_ok {ns : List Int} {k : Nat} (hk : k < 100) {Q : Rv → Prop} (q : ∀ o, Pot 0 o → Q (.fr o)) : OkO (g__law_pot [scriptD ns, .int (k : Nat)]) Q :=
  potP_ok (n1 := 1000003) (n2 := 2447) (n3 := 7019) (n4 := 2305843009213693951) (n5 := 83529) (n6 := 9173) (n7 := 1925) (n8 := 2305843009213693921) rfl (by decide) (by decide) (by decide) (by decide) (by decide) (by decide) hk q
theorem law_plain : ∀ ns : List Int, ns.length ≤ 63 → g_law [scriptD ns] = some (.d (.bool true)) := by
  intro ns hl
  suffices h : OkO (g_law [scriptD ns]) fun r => r = .d (.bool true) by
    obtain ⟨r, e, rfl⟩ := h
    exact e
  unfold g_law
  refine run_data [.val (scriptD ns), .nil, .nil, .nil] (by rfl) (by rfl) ?_
  unfold m_law
  repeat decreasing_trivial_pre_omega
  refine lc_runP (fun _ => some (.bool true)) ?_ (fun d hd => ?_) ?_
  · exact (by decide)
  · repeat decreasing_trivial_pre_omega
    refine ⟨fun h => by (cases h), fun _ => ?_⟩
    repeat decreasing_trivial_pre_omega
    have hd' : d = .int 2 ∨ d = .int 3 ∨ d = .int 4 ∨ d = .int 5 := by simpa using hd
    have e : g__law_are_powers_right [d] = some (.d (.bool true)) := by
      rcases hd' with rfl | rfl | rfl | rfl
      · exact isT_ok pr2
      · exact isT_ok pr3
      · exact isT_ok pr4
      · exact isT_ok pr5
    refine ⟨_, e, ?_⟩
    repeat decreasing_trivial_pre_omega
    exact ⟨by first | rfl | trivial, by first | rfl | trivial⟩
  simp only [lockO, unlockO, backS, backOf, List.getElem?_cons_zero, List.getElem?_cons_succ, List.set_cons_zero, List.set_cons_succ, List.filterMap_cons, List.filterMap_nil]
  repeat decreasing_trivial_pre_omega
  refine ⟨.d (.bool true), rfl, ?_⟩
  repeat decreasing_trivial_pre_omega
  refine ⟨fun h => by (cases h), fun _ => ?_⟩
  repeat decreasing_trivial_pre_omega
  refine cellsP_ok (lim := 2) rfl hl (by omega) (by omega) fun n n0 n2 => ?_
  repeat decreasing_trivial_pre_omega
  simp only [lockO]
  rw [rangeD0]
  refine loop_inv (fun r sl => ∃ (js : List Nat) (y1 y2 y3 : Sl), SV y1 ∧ (SV y2 ∨ ∃ o, y2 = .own false false o) ∧ sl = [.val (scriptD ns), y1, y2, y3] ∧ r = js.map nd ∧ (∀ a ∈ js, a < n))
    ⟨List.range n, .nil, .nil, .nil, sv_nil, .inl sv_nil, rfl, rfl, fun a ha => List.mem_range.mp ha⟩ (fun d r sl _ hI => ?_) (fun sl hI => ?_)
  · obtain ⟨js, y1, y2, y3, t1, t2, rfl, hj, hjs⟩ := hI
    cases js with
    | nil => cases hj
    | cons j js =>
      rw [List.map_cons] at hj
      obtain ⟨rfl, rfl⟩ := List.cons.inj hj
      have hj1 := hjs j List.mem_cons_self
      have hjs' : ∀ a ∈ js, a < n := fun a ha => hjs a (List.mem_cons_of_mem _ ha)
      repeat decreasing_trivial_pre_omega
      refine pot_ok (by omega) fun p hP => ?_
      repeat decreasing_trivial_pre_omega
      refine ok_putf ?_ ?_
      · rcases t2 with t2 | ⟨o, rfl⟩
        · exact okSet_sv rfl t2
        · rfl
      simp only [List.set_cons_zero, List.set_cons_succ]
      repeat decreasing_trivial_pre_omega
      refine ⟨false, p, rfl, tk (u := 4) hP (by omega) (by omega) (by omega) fun d p1 hd hP1 => ?_⟩
      simp only [List.set_cons_zero, List.set_cons_succ]
      repeat decreasing_trivial_pre_omega
      refine ⟨false, p1, rfl, ?_⟩
      have e2 : PyData.int (2 + ((d : Nat) : Int)) = nd (2 + d) := by
        show PyData.int _ = PyData.int _
        congr 1
      rw [e2]
      refine right_ok (show Od (2 + d) by unfold Od; omega) hP1 (by omega) fun p2 hP2 => ?_
      simp only [List.set_cons_zero, List.set_cons_succ]
      repeat decreasing_trivial_pre_omega
      refine ⟨fun h => by (cases h), fun _ => ?_⟩
      repeat decreasing_trivial_pre_omega
      exact ⟨js, _, _, _, sv_val, .inr ⟨_, rfl⟩, rfl, rfl, hjs'⟩
  · obtain ⟨js, y1, y2, y3, t1, t2, rfl, hj, hjs⟩ := hI
    simp only [unlockO]
    repeat decreasing_trivial_pre_omega
    rfl
end W56
open PySem PySem.W PyProof.Rows
set_option maxHeartbeats 0 in
theorem PySem.Challenge.cw_walkedtogether_k56_whole_powers_in_field_holds : PySem.Challenge.rw_walkedtogether_k56_whole_powers_in_field.Holds := by
  w_on; o_law; k_head; (case hw => w_witness2)
  k_fill
  refine RL.walkG (l := PySem.Challenge.rw_walkedtogether_k56_whole_powers_in_field) (n := 63) (k := 7) (x := "script") W56.g_law rfl (by decide) rfl ⟨rfl, by decide, by decide⟩ (fun w h Y => PySem.W.kIn_of Y) ?F W56.law_plain
  case F =>
    intro w mg fa h KX G hmg
    refine' W56.all_mk KX G hmg ?rl_a0 ?rl_l0 ?rl_c0 ?rl_k0 ?rl_a1 ?rl_l1 ?rl_c1 ?rl_k1 ?rl_a2 ?rl_l2 ?rl_c2 ?rl_k2 ?rl_a3 ?rl_l3 ?rl_c3 ?rl_k3 ?rl_a4 ?rl_l4 ?rl_c4 ?rl_k4 ?rl_a5 ?rl_l5 ?rl_c5 ?rl_k5 ?rl_a6 ?rl_l6 ?rl_c6 ?rl_k6 ?rl_a7 ?rl_l7 ?rl_c7 ?rl_k7 ?rl_a8 ?rl_l8 ?rl_c8 ?rl_k8 ?rl_a9 ?rl_l9 ?rl_c9 ?rl_k9 ?rl_a10 ?rl_l10 ?rl_c10 ?rl_k10 ?rl_a11 ?rl_l11 ?rl_c11 ?rl_k11 ?rl_a12 ?rl_l12 ?rl_c12 ?rl_k12 ?rl_a13 ?rl_l13 ?rl_c13 ?rl_k13 ?rl_a14 ?rl_l14 ?rl_c14 ?rl_k14 ?rl_a15 ?rl_l15 ?rl_c15 ?rl_k15 ?rl_a16 ?rl_l16 ?rl_c16 ?rl_k16 ?rl_a17 ?rl_l17 ?rl_c17 ?rl_k17 ?rl_z0 ?rl_z1 ?rl_z2 ?rl_z3 ?rl_z4 ?rl_z5 ?rl_z6 ?rl_z7 ?rl_z8 ?rl_z9 ?rl_z10 ?rl_z11 ?rl_z12 ?rl_z13 ?rl_g0 ?rl_t0 ?rl_g1 ?rl_t1 ?rl_g2 ?rl_t2 ?rl_g3 ?rl_t3
    case rl_a0 => k_is
    case rl_l0 => k_is
    case rl_c0 => k_is
    case rl_k0 => k_is
    case rl_a1 => k_is
    case rl_l1 => k_is
    case rl_c1 => k_is
    case rl_k1 => k_is
    case rl_a2 => k_is
    case rl_l2 => k_is
    case rl_c2 => k_is
    case rl_k2 => k_is
    case rl_a3 => k_is
    case rl_l3 => k_is
    case rl_c3 => k_is
    case rl_k3 => k_is
    case rl_a4 => k_is
    case rl_l4 => k_is
    case rl_c4 => k_is
    case rl_k4 => k_is
    case rl_a5 => k_is
    case rl_l5 => k_is
    case rl_c5 => k_is
    case rl_k5 => k_is
    case rl_a6 => k_is
    case rl_l6 => k_is
    case rl_c6 => k_is
    case rl_k6 => k_is
    case rl_a7 => k_is
    case rl_l7 => k_is
    case rl_c7 => k_is
    case rl_k7 => k_is
    case rl_a8 => k_is
    case rl_l8 => k_is
    case rl_c8 => k_is
    case rl_k8 => k_is
    case rl_a9 => k_is
    case rl_l9 => k_is
    case rl_c9 => k_is
    case rl_k9 => k_is
    case rl_a10 => k_is
    case rl_l10 => k_is
    case rl_c10 => k_is
    case rl_k10 => k_is
    case rl_a11 => k_is
    case rl_l11 => k_is
    case rl_c11 => k_is
    case rl_k11 => k_is
    case rl_a12 => k_is
    case rl_l12 => k_is
    case rl_c12 => k_is
    case rl_k12 => k_is
    case rl_a13 => k_is
    case rl_l13 => k_is
    case rl_c13 => k_is
    case rl_k13 => k_is
    case rl_a14 => k_is
    case rl_l14 => k_is
    case rl_c14 => k_is
    case rl_k14 => k_is
    case rl_a15 => k_is
    case rl_l15 => k_is
    case rl_c15 => k_is
    case rl_k15 => k_is
    case rl_a16 => k_is
    case rl_l16 => k_is
    case rl_c16 => k_is
    case rl_k16 => k_is
    case rl_a17 => k_is
    case rl_l17 => k_is
    case rl_c17 => k_is
    case rl_k17 => k_is
    case rl_z0 => k_is
    case rl_z1 => k_is
    case rl_z2 => k_is
    case rl_z3 => k_is
    case rl_z4 => k_is
    case rl_z5 => k_is
    case rl_z6 => k_is
    case rl_z7 => k_is
    case rl_z8 => k_is
    case rl_z9 => k_is
    case rl_z10 => k_is
    case rl_z11 => k_is
    case rl_z12 => k_is
    case rl_z13 => k_is
    case rl_g0 => k_is
    case rl_t0 => kernel_rfl
    case rl_g1 => k_is
    case rl_t1 => kernel_rfl
    case rl_g2 => k_is
    case rl_t2 => kernel_rfl
    case rl_g3 => k_is
    case rl_t3 => kernel_rfl
